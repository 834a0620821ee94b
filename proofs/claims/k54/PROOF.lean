import PyProof.Rows.All
import Wide.All
import OpenK.AllK
import Wide.FinOn
import HandS.ForMost
import HandS.Deep
import HandS.Wide
import HandS.Walk
import HandS.Dict
import KE.KDictKeyed
import KE.KDictWalk
import HandS.Flow
import HandS.Style
import KE.LtData
import HandS.TupAny
import HandS.TupMul
import HandS.NoneIn
import HandS.Zip
import HandS.IsInst
import KE.KRevSl
import HandS.Ends
import KE.SortData
import KE.GoesMore
import PyProof.EnumMake
import KE.KDictDisplayH
import KE.DataMinMax
import KE.DataAny
import HandS.RaiseMore
import HandS.TupSets
import KE.KeyNested
import HandS.SetFor
import HandS.Comp
import PyProof.SeqIndex
import PyProof.WalksMore
import HandS.Strs
import KE.KDictPairs
import KE.SortKeyHeap
import PyProof.TupleOfSeq
import HandS.SortKw
import HandS.JoinGen
import HandS.More
import KE.KEqDict
import HandS.Iter
import HandS.DictComp
import HandS.ReplaceLit
import PySem.Challenge.RW_loopsclosed_k54_whole_sixteenths
set_option Elab.async false
set_option linter.all false
set_option maxRecDepth 100000
namespace Dn
open PySem PySem.Spec PyProof.Rows L2

abbrev D := PyData
abbrev Env := List (Option D)

/-- the world whose texts' hashes are meant -/
class Wd where
  w : World
mutual
def nk : D → NestedKey
  | .none => .none
  | .bool b => .num (if b = true then 1 else 0)
  | .int i => .num i
  | .str x => .text x
  | .tuple ds => .tup (nks ds)
  | .list _ => .none
  | .dict _ => .none
def nks : List D → List NestedKey
  | [] => []
  | d :: ds => nk d :: nks ds
end
mutual
/-- may be (in) a key: no bool -/
def keyP : D → Bool
  | .none => true
  | .bool _ => false
  | .int _ => true
  | .str _ => true
  | .tuple ds => keyPs ds
  | .list _ => false
  | .dict _ => false
def keyPs : List D → Bool
  | [] => true
  | d :: ds => keyP d && keyPs ds
end
def keyG (d : D) : Bool := keyP d && decide ((nk d).depth ≤ 8)
def isT : D → Bool | .tuple _ => true | _ => false
def isF : D → Bool | .int _ => true | .str _ => true | _ => false
/-- the keys of a dict: all tuples, or all numbers and texts; all different -/
structure DOk (kvs : List (D × D)) : Prop where
  good : ∀ p ∈ kvs, keyG p.1 = true
  kind : (∀ p ∈ kvs, isT p.1 = true) ∨ (∀ p ∈ kvs, isF p.1 = true)
  nodup : (kvs.map fun p => nk p.1).Nodup
  size : kvs.length ≤ sizeLine
theorem DOk.nil : DOk [] := ⟨fun _ h => (nomatch h), .inl fun _ h => (nomatch h), List.nodup_nil, Nat.zero_le _⟩

structure Rdr where
  L : Addr → List V → Prop
  T : Addr → List V → Prop
  C : Addr → List (V × Int × V) → Prop
  hk : D → Int

mutual
inductive Rep (r : Rdr) : D → V → Prop
  | non : Rep r .none .non
  | bl (b : Bool) : Rep r (.bool b) (.bl b)
  | int (i : Int) : Rep r (.int i) (.int i)
  | str (x : Str) : Rep r (.str x) (.str x)
  | lst {a : Addr} {vs : List V} {ds : List D} : r.L a vs → RepAll r ds vs → Rep r (.list ds) (.ref a)
  | tup {a : Addr} {vs : List V} {ds : List D} : r.T a vs → RepAll r ds vs → Rep r (.tuple ds) (.ref a)
  | dic {a : Addr} {xs : List (V × Int × V)} {kvs : List (D × D)} : r.C a xs → RepKv r kvs xs → DOk kvs → Rep r (.dict kvs) (.ref a)
inductive RepAll (r : Rdr) : List D → List V → Prop
  | nil : RepAll r [] []
  | cons {d : D} {ds : List D} {v : V} {vs : List V} : Rep r d v → RepAll r ds vs → RepAll r (d :: ds) (v :: vs)
inductive RepKv (r : Rdr) : List (D × D) → List (V × Int × V) → Prop
  | nil : RepKv r [] []
  | cons {k d : D} {kvs : List (D × D)} {kv v : V} {xs : List (V × Int × V)} : Rep r k kv → Rep r d v → RepKv r kvs xs → RepKv r ((k, d) :: kvs) ((kv, r.hk k, v) :: xs)
end
structure Rdr.le (r r' : Rdr) : Prop where
  L : ∀ a vs, r.L a vs → r'.L a vs
  T : ∀ a vs, r.T a vs → r'.T a vs
  C : ∀ a xs, r.C a xs → r'.C a xs
  hk : r.hk = r'.hk

mutual
theorem Rep.mono {r r' : Rdr} (h : r.le r') : ∀ {d : D} {v : V}, Rep r d v → Rep r' d v
  | _, _, .non => .non
  | _, _, .bl b => .bl b
  | _, _, .int i => .int i
  | _, _, .str x => .str x
  | _, _, .lst a b => .lst (h.L _ _ a) (RepAll.mono h b)
  | _, _, .tup a b => .tup (h.T _ _ a) (RepAll.mono h b)
  | _, _, .dic a b c => .dic (h.C _ _ a) (RepKv.mono h b) c
theorem RepAll.mono {r r' : Rdr} (h : r.le r') : ∀ {ds : List D} {vs : List V}, RepAll r ds vs → RepAll r' ds vs
  | _, _, .nil => .nil
  | _, _, .cons a b => .cons (Rep.mono h a) (RepAll.mono h b)
theorem RepKv.mono {r r' : Rdr} (h : r.le r') : ∀ {kvs : List (D × D)} {xs : List (V × Int × V)}, RepKv r kvs xs → RepKv r' kvs xs
  | _, _, .nil => .nil
  | _, _, .cons a b c => by
    have e := h.hk
    rw [e]
    exact .cons (Rep.mono h a) (Rep.mono h b) (RepKv.mono h c)
end
theorem RepAll.length {r : Rdr} : ∀ {ds : List D} {vs : List V}, RepAll r ds vs → ds.length = vs.length
  | _, _, .nil => rfl
  | _, _, .cons _ b => congrArg (· + 1) (RepAll.length b)
theorem RepAll.get {r : Rdr} : ∀ {ds : List D} {vs : List V} {i : Nat} {d : D}, RepAll r ds vs → ds[i]? = some d → ∃ v, vs[i]? = some v ∧ Rep r d v
  | _, _, _, _, .nil, e => by simp at e
  | _, _, 0, _, .cons a b, e => by simp at e; subst e; exact ⟨_, rfl, a⟩
  | _, _, i + 1, d, .cons a b, e => by
    obtain ⟨v, h1, h2⟩ := RepAll.get (i := i) (d := d) b (by simpa using e)
    exact ⟨v, by simpa using h1, h2⟩
theorem RepAll.getV {r : Rdr} : ∀ {ds : List D} {vs : List V} {i : Nat} {v : V}, RepAll r ds vs → vs[i]? = some v → ∃ d, ds[i]? = some d ∧ Rep r d v
  | _, _, _, _, .nil, e => by simp at e
  | _, _, 0, _, .cons a b, e => by simp at e; subst e; exact ⟨_, rfl, a⟩
  | _, _, i + 1, v, .cons a b, e => by
    obtain ⟨d, h1, h2⟩ := RepAll.getV (i := i) (v := v) b (by simpa using e)
    exact ⟨d, by simpa using h1, h2⟩
theorem RepAll.append {r : Rdr} : ∀ {ds es : List D} {vs ws : List V}, RepAll r ds vs → RepAll r es ws → RepAll r (ds ++ es) (vs ++ ws)
  | _, _, _, _, .nil, h => h
  | _, _, _, _, .cons a b, h => .cons a (RepAll.append b h)
theorem RepAll.drop {r : Rdr} : ∀ {ds : List D} {vs : List V} (n : Nat), RepAll r ds vs → RepAll r (ds.drop n) (vs.drop n)
  | _, _, 0, h => h
  | _, _, _ + 1, .nil => .nil
  | _, _, n + 1, .cons _ b => RepAll.drop n b
theorem RepAll.take {r : Rdr} : ∀ {ds : List D} {vs : List V} (n : Nat), RepAll r ds vs → RepAll r (ds.take n) (vs.take n)
  | _, _, 0, _ => .nil
  | _, _, _ + 1, .nil => .nil
  | _, _, n + 1, .cons a b => .cons a (RepAll.take n b)
theorem RepAll.set {r : Rdr} {d : D} {v : V} (h : Rep r d v) : ∀ {ds : List D} {vs : List V} (i : Nat), RepAll r ds vs → RepAll r (ds.set i d) (vs.set i v)
  | _, _, _, .nil => .nil
  | _, _, 0, .cons _ b => .cons h b
  | _, _, i + 1, .cons a b => .cons a (RepAll.set h i b)
theorem RepAll.reverse {r : Rdr} : ∀ {ds : List D} {vs : List V}, RepAll r ds vs → RepAll r ds.reverse vs.reverse
  | _, _, .nil => .nil
  | _, _, .cons a b => by
    rw [List.reverse_cons, List.reverse_cons]
    exact RepAll.append (RepAll.reverse b) (.cons a .nil)
theorem RepAll.one {r : Rdr} {d : D} {v : V} (h : Rep r d v) : RepAll r [d] [v] := .cons h .nil
theorem RepAll.rep {r : Rdr} {ds : List D} {vs : List V} (h : RepAll r ds vs) : ∀ k : Nat, RepAll r (List.replicate k ds).flatten (List.replicate k vs).flatten
  | 0 => .nil
  | k + 1 => by
    rw [List.replicate_succ, List.replicate_succ, List.flatten_cons, List.flatten_cons]
    exact RepAll.append h (RepAll.rep h k)

def EntR (x : V × Int × V) (e : DictEntry) : Prop := RelV x.1 e.key ∧ e.hash = x.2.1 ∧ RelV x.2.2 e.val
/-- a dict by its entries: keys, hashes, values -/
def DicAt (a : Addr) (xs : List (V × Int × V)) (h : Heap) : Prop :=
  (a == sysModules) = false ∧ ∃ o es ep, h.get? a = some o ∧ o.ExactDict ∧ o.data = .dict es ep ∧ Paired EntR xs es.toList
/-- .. the module's own -/
def DicKo (K : PySem.W.Frag) (a : Addr) (o : Obj) (xs : List (V × Int × V)) : Prop :=
  K.lookup a = some o ∧ (a == sysModules) = false ∧ o.ExactDict ∧ ∃ es ep, o.data = .dict es ep ∧ Paired EntR xs es.toList
def DicO (a : Addr) (xs : List (V × Int × V)) : HO := .ext (DicAt a xs)
section
variable [Wd]
/-- the world's hash of a datum as a key -/
def hk0 : D → Int := fun d => (nk d).hash Wd.w
def LstF (K : PySem.W.Frag) (H : Hp) (a : Addr) (vs : List V) : Prop :=
  (∃ o, H a = some (.frz o (.lst vs))) ∨ ∃ (o : Obj) (its : Array Value) (n : Nat), K.lookup a = some o ∧ o.cls = .type "list" ∧ o.dict = none ∧ o.data = .seq its n ∧ its.size ≤ sizeLine ∧ Vals vs its.toList
theorem LstF.sq {K : PySem.W.Frag} {H : Hp} {a : Addr} {vs : List V} (h : LstF K H a vs) : SqL K H a vs := by
  rcases h with ⟨o, h⟩ | h
  · exact .inl (.inr ⟨o, h⟩)
  · exact .inr h
/-- a dict that is never written -/
def DicF (K : PySem.W.Frag) (H : Hp) (a : Addr) (xs : List (V × Int × V)) : Prop := ∃ o, H a = some (.frz o (DicO a xs)) ∨ DicKo K a o xs
/-- a dict that stands now -/
def DicL (K : PySem.W.Frag) (H : Hp) (a : Addr) (xs : List (V × Int × V)) : Prop := Rd H a (DicO a xs) ∨ ∃ o, DicKo K a o xs
theorem DicF.L {K : PySem.W.Frag} {H : Hp} {a : Addr} {xs : List (V × Int × V)} (h : DicF K H a xs) : DicL K H a xs := by
  obtain ⟨o, h | h⟩ := h
  · exact .inl (.inr ⟨o, h⟩)
  · exact .inr ⟨o, h⟩
theorem DicF.keep {K : PySem.W.Frag} {H H' : Hp} {a : Addr} {xs : List (V × Int × V)} (h : DicF K H a xs) (k : ∀ u, H a = some u → ¬ Mut (some u) → H' a = some u) : DicF K H' a xs := by
  obtain ⟨o, h | h⟩ := h
  · exact ⟨o, .inl (k _ h fun z => z)⟩
  · exact ⟨o, .inr h⟩
theorem DicL.keep {K : PySem.W.Frag} {H H' : Hp} {a : Addr} {xs : List (V × Int × V)} (h : DicL K H a xs) (k : ∀ u, H a = some u → H' a = some u) : DicL K H' a xs := by
  rcases h with (h | ⟨o, h⟩) | h
  · exact .inl (.inl (k _ h))
  · exact .inl (.inr ⟨o, k _ h⟩)
  · exact .inr h
/-- the object of a tuple just made -/
def tupB (its : List Value) : Obj := { cls := .type "tuple", data := .seq its.toArray }
/-- .. known to bear no attribute dict -/
def tupO (its : List Value) (vs : List V) : HO := .frz (tupB its) (.tup vs)
def TupF (K : PySem.W.Frag) (H : Hp) (a : Addr) (vs : List V) : Prop :=
  (∃ its, H a = some (tupO its vs)) ∨ ∃ (o : Obj) (its : Array Value) (n : Nat), K.lookup a = some o ∧ o.cls = .type "tuple" ∧ o.dict = none ∧ o.data = .seq its n ∧ its.size ≤ sizeLine ∧ Vals vs its.toList
theorem TupF.sq {K : PySem.W.Frag} {H : Hp} {a : Addr} {vs : List V} (h : TupF K H a vs) : SqT K H a vs := by
  rcases h with ⟨its, h⟩ | ⟨o, its, n, h1, h2, _, h3, h4, h5⟩
  · exact .inl (.inr ⟨_, h⟩)
  · exact .inr ⟨o, its, n, h1, h2, h3, h4, h5⟩
theorem TupF.keep {K : PySem.W.Frag} {H H' : Hp} {a : Addr} {vs : List V} (h : TupF K H a vs) (k : ∀ u, H a = some u → ¬ Mut (some u) → H' a = some u) : TupF K H' a vs := by
  rcases h with ⟨its, h⟩ | h
  · exact .inl ⟨its, k _ h fun z => z⟩
  · exact .inr h
/-- frozen: nothing in it is ever written -/
def rdF (K : PySem.W.Frag) (H : Hp) : Rdr := ⟨LstF K H, TupF K H, DicF K H, hk0⟩
/-- to be read now -/
def rdL (K : PySem.W.Frag) (H : Hp) : Rdr := ⟨SqL K H, TupF K H, DicL K H, hk0⟩
/-- to be read: what is frozen, or stands at an address of B, where nothing is written -/
def rdA (K : PySem.W.Frag) (H : Hp) (B : Addr → Prop) : Rdr := ⟨fun a vs => SqL K H a vs ∧ (B a ∨ LstF K H a vs), TupF K H, fun a xs => DicL K H a xs ∧ (B a ∨ DicF K H a xs), hk0⟩
theorem rdF_A {K : PySem.W.Frag} {H : Hp} {B : Addr → Prop} : (rdF K H).le (rdA K H B) := ⟨fun _ _ h => ⟨h.sq, .inr h⟩, fun _ _ h => h, fun _ _ h => ⟨h.L, .inr h⟩, rfl⟩
theorem rdA_L {K : PySem.W.Frag} {H : Hp} {B : Addr → Prop} : (rdA K H B).le (rdL K H) := ⟨fun _ _ h => h.1, fun _ _ h => h, fun _ _ h => h.1, rfl⟩
theorem rdF_L {K : PySem.W.Frag} {H : Hp} : (rdF K H).le (rdL K H) := ⟨fun _ _ h => h.sq, fun _ _ h => h, fun _ _ h => h.L, rfl⟩
theorem SqL.keep {K : PySem.W.Frag} {H H' : Hp} {a : Addr} {vs : List V} (h : SqL K H a vs) (k : ∀ u, H a = some u → H' a = some u) : SqL K H' a vs := by
  rcases h with (h | ⟨o, h⟩) | h
  · exact .inl (.inl (k _ h))
  · exact .inl (.inr ⟨o, k _ h⟩)
  · exact .inr h
theorem SqT.keep {K : PySem.W.Frag} {H H' : Hp} {a : Addr} {vs : List V} (h : SqT K H a vs) (k : ∀ u, H a = some u → ¬ Mut (some u) → H' a = some u) : SqT K H' a vs := by
  rcases h with (h | ⟨o, h⟩) | h
  · exact .inl (.inl (k _ h fun z => z))
  · exact .inl (.inr ⟨o, k _ h fun z => z⟩)
  · exact .inr h
theorem LstF.keep {K : PySem.W.Frag} {H H' : Hp} {a : Addr} {vs : List V} (h : LstF K H a vs) (k : ∀ u, H a = some u → ¬ Mut (some u) → H' a = some u) : LstF K H' a vs := by
  rcases h with ⟨o, h⟩ | h
  · exact .inl ⟨o, k _ h fun z => z⟩
  · exact .inr h
/-- what is frozen stays while all that is not to be written stays -/
theorem rdF_keep {K : PySem.W.Frag} {H H' : Hp} (k : ∀ a u, H a = some u → ¬ Mut (some u) → H' a = some u) : (rdF K H).le (rdF K H') :=
  ⟨fun a _ h => LstF.keep h (k a), fun a _ h => TupF.keep h (k a), fun a _ h => DicF.keep h (k a), rfl⟩
theorem rdL_keep {K : PySem.W.Frag} {H H' : Hp} (k : ∀ a u, H a = some u → H' a = some u) : (rdL K H).le (rdL K H') :=
  ⟨fun a _ h => SqL.keep h (k a), fun a _ h => TupF.keep h fun u e _ => k a u e, fun a _ h => DicL.keep h (k a), rfl⟩
theorem rdA_keep {K : PySem.W.Frag} {H H' : Hp} {B : Addr → Prop} (k : ∀ a u, H a = some u → (B a ∨ ¬ Mut (some u)) → H' a = some u) : (rdA K H B).le (rdA K H' B) := by
  refine ⟨fun a vs h => ?_, fun a _ h => TupF.keep h fun u e z => k a u e (.inr z), fun a xs h => ?_, rfl⟩
  · obtain ⟨h1, h2⟩ := h
    rcases h2 with h2 | h2
    · rcases h1 with (h1 | ⟨o, h1⟩) | h1
      · exact ⟨.inl (.inl (k _ _ h1 (.inl h2))), .inl h2⟩
      · exact ⟨.inl (.inr ⟨o, k _ _ h1 (.inl h2)⟩), .inl h2⟩
      · exact ⟨.inr h1, .inr (.inr h1)⟩
    · have q := LstF.keep h2 fun u e z => k a u e (.inr z)
      exact ⟨q.sq, .inr q⟩
  · obtain ⟨h1, h2⟩ := h
    rcases h2 with h2 | h2
    · exact ⟨h1.keep fun u e => k a u e (.inl h2), .inl h2⟩
    · have q := h2.keep (H' := H') fun u e z => k a u e (.inr z)
      exact ⟨q.L, .inr q⟩
end
end Dn
namespace Dn
open PySem PySem.Spec PyProof.Rows L2
variable [Wd]

/-- how a value is held: len: to be read at once; sta: to be read, not kept; frz: for ever; own: its own node may be written; io a: the same, the object at a, never bound anew -/
inductive Md where
  | len | sta | frz | own | io (a : Addr) | bx | bio (a c : Addr) | bc (c : Addr)
abbrev MEnv := List (Option Md)

/-- a node of one's own at an address of p, what is in it frozen -/
def Own (K : PySem.W.Frag) (H : Hp) (d : D) (v : V) (p : Addr → Prop) : Prop :=
  match d with
  | .list ds => ∃ a vs, v = .ref a ∧ p a ∧ H a = some (.lst vs) ∧ RepAll (rdF K H) ds vs
  | .dict kvs => ∃ a xs, v = .ref a ∧ p a ∧ H a = some (DicO a xs) ∧ RepKv (rdF K H) kvs xs ∧ DOk kvs
  | d => Rep (rdF K H) d v
/-- a box: a list at a of a list of whole numbers at c and two whole numbers, all one's own -/
def BoxAt (H : Hp) (d : D) (v : V) (p : Addr → Prop) (a c : Addr) : Prop := ∃ (cells : List Int) (x y : Int), d = .list [.list (cells.map .int), .int x, .int y] ∧ v = .ref a ∧ p a ∧ p c ∧ a ≠ c ∧ H a = some (.lst [.ref c, .int x, .int y]) ∧ H c = some (.lst (cells.map V.int))
/-- a result; B: addresses at which nothing is written -/
def RRep (K : PySem.W.Frag) (H : Hp) (B : Addr → Prop) : Md → D → V → (Addr → Prop) → Prop
  | .len, d, v, _ => Rep (rdL K H) d v
  | .sta, d, v, _ => Rep (rdA K H B) d v
  | .frz, d, v, _ => Rep (rdF K H) d v
  | .own, d, v, p => Own K H d v p
  | .io a, d, v, p => Own K H d v p ∧ v = .ref a
  | .bx, d, v, p => ∃ a c, BoxAt H d v p a c
  | .bio a c, d, v, p => BoxAt H d v p a c
  | .bc _, _, _, _ => False

/-- what a slot holds: never what is to be read at once alone -/
def SRep (K : PySem.W.Frag) (H : Hp) (B : Addr → Prop) : Md → D → V → (Addr → Prop) → Prop
  | .len, _, _, _ => False
  | .sta, d, v, _ => Rep (rdA K H B) d v
  | .frz, d, v, _ => Rep (rdF K H) d v
  | .own, d, v, p => Own K H d v p
  | .io a, d, v, p => Own K H d v p ∧ v = .ref a
  | .bx, d, v, p => ∃ a c, BoxAt H d v p a c
  | .bio a c, d, v, p => BoxAt H d v p a c
  | .bc c, _, v, _ => v = .ref c

abbrev Fp := Nat → Addr → Prop
def Fp.any (o : Fp) (a : Addr) : Prop := ∃ i, o i a
def noP : Addr → Prop := fun _ => False

/-- the frame's slots hold the data of δ, by the modes of M; o: the addresses that each slot may write; B: what stood ahead of the def and is not written -/
structure R (K : PySem.W.Frag) (B : Addr → Prop) (H : Hp) (σ : L2.St) (δ : Env) (M : MEnv) (o : Fp) : Prop where
  len : σ.length = δ.length
  dis : ∀ i j a, o i a → o j a → i = j
  cell : ∀ i a, o i a → ∃ u, H a = some u ∧ Mut (some u)
  sep : ∀ a, o.any a → ¬ B a
  dom : ∀ a, B a → ∃ u, H a = some u
  at_ : ∀ i m d, M[i]? = some (some m) → δ[i]? = some (some d) → ∃ v, σ[i]? = some (some v) ∧ SRep K H B m d v (o i)

/-- all is kept, but (w) what o may write; nothing goes -/
structure Kp (w : Bool) (o : Fp) (H H' : Hp) : Prop where
  keep : ∀ a u, H a = some u → (w = true → ¬ o.any a) → H' a = some u
  there : ∀ a, H' a = none → H a = none
/-- what is new -/
def Sub (o : Fp) (H : Hp) (o' : Fp) : Prop := ∀ a, o'.any a → o.any a ∨ H a = none
/-- all that stands, stands -/
def Ext (H H' : Hp) : Prop := ∀ a u, H a = some u → H' a = some u
theorem Ext.refl (H : Hp) : Ext H H := fun _ _ h => h
theorem Ext.trans {H H1 H2 : Hp} (a : Ext H H1) (b : Ext H1 H2) : Ext H H2 := fun x u h => b x u (a x u h)
theorem Ext.free {H H' : Hp} (e : Ext H H') {a : Addr} (h : H' a = none) : H a = none := by
  cases q : H a with
  | none => rfl
  | some u => rw [e a u q] at h; cases h
theorem Ext.new {H : Hp} {p : Addr} {u : HO} (h : H p = none) : Ext H (upd H p u) := fun a o e => by
  rw [upd_ne (ne_of_none e h)]
  exact e
theorem Kp.refl (w : Bool) (o : Fp) (H : Hp) : Kp w o H H := ⟨fun _ _ e _ => e, fun _ e => e⟩
theorem Kp.all {w : Bool} {o : Fp} {H H' : Hp} (k : Ext H H') : Kp w o H H' := ⟨fun a u e _ => k a u e, fun _ e => k.free e⟩
theorem Kp.ext {o : Fp} {H H' : Hp} (k : Kp false o H H') : Ext H H' := fun a u e => k.keep a u e fun z => nomatch z
theorem Kp.up {w w' : Bool} {o : Fp} {H H' : Hp} (k : Kp w o H H') (h : w = true → w' = true) : Kp w' o H H' := ⟨fun a u e n => k.keep a u e fun z => n (h z), k.there⟩
theorem Sub.refl (o : Fp) (H : Hp) : Sub o H o := fun _ h => .inl h
theorem Sub.trans {w : Bool} {o o1 o2 : Fp} {H H1 : Hp} (a : Sub o H o1) (k : Kp w o H H1) (b : Sub o1 H1 o2) : Sub o H o2 := fun x h => by
  rcases b x h with h | h
  · exact a x h
  · exact .inr (k.there x h)
theorem Kp.trans {w : Bool} {o o1 : Fp} {H H1 H2 : Hp} (a : Kp w o H H1) (s : Sub o H o1) (b : Kp w o1 H1 H2) : Kp w o H H2 := by
  refine ⟨fun x u e n => ?_, fun x h => a.there x (b.there x h)⟩
  refine b.keep x u (a.keep x u e n) fun z h => ?_
  rcases s x h with q | q
  · exact n z q
  · rw [e] at q
    cases q

section
variable {K : PySem.W.Frag} {H H' : Hp} {σ : L2.St} {δ : Env} {M : MEnv} {o : Fp} {d : D} {v : V} {p : Addr → Prop} {m : Md} {B : Addr → Prop}
/-- what may be written is not frozen -/
theorem R.kpF (r : R K B H σ δ M o) {w : Bool} (k : Kp w o H H') : ∀ a u, H a = some u → ¬ Mut (some u) → H' a = some u := fun a u e n => k.keep a u e fun _ ⟨i, h⟩ => by
  obtain ⟨u', e', mu⟩ := r.cell i a h
  rw [e] at e'
  cases e'
  exact n mu
theorem Own.keep (h : Own K H d v p) (k : ∀ a u, H a = some u → (p a ∨ ¬ Mut (some u)) → H' a = some u) : Own K H' d v p := by
  have kF : (rdF K H).le (rdF K H') := rdF_keep fun a u e n => k a u e (.inr n)
  cases d with
  | list ds =>
    obtain ⟨a, vs, e, q, hl, r⟩ := h
    exact ⟨a, vs, e, q, k _ _ hl (.inl q), RepAll.mono kF r⟩
  | dict kvs =>
    obtain ⟨a, xs, e, q, hl, r, ok⟩ := h
    exact ⟨a, xs, e, q, k _ _ hl (.inl q), RepKv.mono kF r, ok⟩
  | none => exact Rep.mono kF h
  | bool _ => exact Rep.mono kF h
  | int _ => exact Rep.mono kF h
  | str _ => exact Rep.mono kF h
  | tuple _ => exact Rep.mono kF h
theorem Own.lent (h : Own K H d v p) : Rep (rdL K H) d v := by
  cases d with
  | list ds =>
    obtain ⟨a, vs, rfl, q, hl, r⟩ := h
    exact .lst (.inl (.inl hl)) (RepAll.mono rdF_L r)
  | dict kvs =>
    obtain ⟨a, xs, rfl, q, hl, r, ok⟩ := h
    exact .dic (.inl (.inl hl)) (RepKv.mono rdF_L r) ok
  | none => exact Rep.mono rdF_L h
  | bool _ => exact Rep.mono rdF_L h
  | int _ => exact Rep.mono rdF_L h
  | str _ => exact Rep.mono rdF_L h
  | tuple _ => exact Rep.mono rdF_L h
theorem Own.sup {p' : Addr → Prop} (h : Own K H d v p) (hp : ∀ a, p a → p' a) : Own K H d v p' := by
  cases d with
  | list ds =>
    obtain ⟨a, vs, e, q, r⟩ := h
    exact ⟨a, vs, e, hp _ q, r⟩
  | dict kvs =>
    obtain ⟨a, xs, e, q, r⟩ := h
    exact ⟨a, xs, e, hp _ q, r⟩
  | none => exact h
  | bool _ => exact h
  | int _ => exact h
  | str _ => exact h
  | tuple _ => exact h
theorem Own.ofF (h : Rep (rdF K H) d v) (nl : ∀ ds, d ≠ .list ds) (nd : ∀ kvs, d ≠ .dict kvs) : Own K H d v p := by
  cases d with
  | list ds => exact absurd rfl (nl ds)
  | dict kvs => exact absurd rfl (nd kvs)
  | none => exact h
  | bool _ => exact h
  | int _ => exact h
  | str _ => exact h
  | tuple _ => exact h
theorem rep_intsL {r : Rdr} : ∀ ns : List Int, RepAll r (ns.map PyData.int) (ns.map V.int)
  | [] => .nil
  | n :: ns => .cons (.int n) (rep_intsL ns)
theorem BoxAt.lent {a c : Addr} (h : BoxAt H d v p a c) : Rep (rdL K H) d v := by
  obtain ⟨cells, x, y, rfl, rfl, _, _, _, h1, h2⟩ := h
  exact .lst (.inl (.inl h1)) (.cons (.lst (.inl (.inl h2)) (rep_intsL cells)) (.cons (.int x) (.cons (.int y) .nil)))
theorem BoxAt.keep {a c : Addr} (h : BoxAt H d v p a c) (k : ∀ a u, H a = some u → (p a ∨ ¬ Mut (some u)) → H' a = some u) : BoxAt H' d v p a c := by
  obtain ⟨cells, x, y, e1, e2, h1, h2, h3, h4, h5⟩ := h
  exact ⟨cells, x, y, e1, e2, h1, h2, h3, k _ _ h4 (.inl h1), k _ _ h5 (.inl h2)⟩
theorem BoxAt.sup {a c : Addr} {p' : Addr → Prop} (h : BoxAt H d v p a c) (hp : ∀ a, p a → p' a) : BoxAt H d v p' a c := by
  obtain ⟨cells, x, y, e1, e2, h1, h2, h3⟩ := h
  exact ⟨cells, x, y, e1, e2, hp _ h1, hp _ h2, h3⟩
theorem RRep.lent (h : RRep K H B m d v p) : Rep (rdL K H) d v := by
  cases m with
  | len => exact h
  | sta => exact Rep.mono rdA_L h
  | frz => exact Rep.mono rdF_L h
  | own => exact Own.lent h
  | io a => exact Own.lent h.1
  | bx =>
    obtain ⟨a, c, z⟩ := h
    exact z.lent
  | bio a c => exact BoxAt.lent h
  | bc c => exact h.elim
def okS : Md → Bool | .len => false | .bc _ => false | _ => true
theorem SRep.of (h : RRep K H B m d v p) (hm : okS m = true) : SRep K H B m d v p := by
  cases m with
  | len => cases hm
  | bc c => cases hm
  | _ => exact h
theorem SRep.rr (h : SRep K H B m d v p) (hm : okS m = true) : RRep K H B m d v p := by
  cases m with
  | len => exact h.elim
  | bc c => cases hm
  | _ => exact h
/-- a temporary value is kept over an evaluation -/
def okm (m : Md) (w : Bool) : Bool := match m with | .len => !w | _ => true
theorem R.kpB (r : R K B H σ δ M o) {w : Bool} (k : Kp w o H H') : ∀ a u, H a = some u → (B a ∨ ¬ Mut (some u)) → H' a = some u := fun a u e n => by
  rcases n with n | n
  · exact k.keep a u e fun _ z => r.sep a z n
  · exact r.kpF k a u e n
theorem RRep.keep {w : Bool} (r : R K B H σ δ M o) (h : RRep K H B m d v p) (k : Kp w o H H') (hp : ∀ a, p a → ¬ o.any a) (ok : okm m w = true) : RRep K H' B m d v p := by
  have kF : ∀ a u, H a = some u → ¬ Mut (some u) → H' a = some u := r.kpF k
  cases m with
  | len =>
    have hw : w = false := by cases w <;> simp [okm] at ok; rfl
    subst hw
    exact Rep.mono (rdL_keep k.ext) h
  | sta => exact Rep.mono (rdA_keep (r.kpB k)) h
  | frz => exact Rep.mono (rdF_keep kF) h
  | own =>
    refine Own.keep h fun a u e n => ?_
    rcases n with n | n
    · exact k.keep a u e fun _ => hp a n
    · exact kF a u e n
  | io a =>
    refine ⟨Own.keep h.1 fun a u e n => ?_, h.2⟩
    rcases n with n | n
    · exact k.keep a u e fun _ => hp a n
    · exact kF a u e n
  | bx =>
    obtain ⟨a, c, z⟩ := h
    refine ⟨a, c, z.keep fun a u e n => ?_⟩
    rcases n with n | n
    · exact k.keep a u e fun _ => hp a n
    · exact kF a u e n
  | bio a c =>
    refine BoxAt.keep h fun a u e n => ?_
    rcases n with n | n
    · exact k.keep a u e fun _ => hp a n
    · exact kF a u e n
  | bc c => exact h.elim
/-- all is kept: the frame holds the same -/
theorem R.keep (r : R K B H σ δ M o) (k : Ext H H') : R K B H' σ δ M o := by
  refine ⟨r.len, r.dis, fun i a h => ?_, r.sep, fun a h => ?_, fun i m d h1 h2 => ?_⟩
  · obtain ⟨u, e, mu⟩ := r.cell i a h
    exact ⟨u, k a u e, mu⟩
  · obtain ⟨u, e⟩ := r.dom a h
    exact ⟨u, k a u e⟩
  · obtain ⟨v, e, q⟩ := r.at_ i m d h1 h2
    refine ⟨v, e, ?_⟩
    cases m with
    | len => exact q.elim
    | sta => exact Rep.mono (rdA_keep fun a u e _ => k a u e) q
    | frz => exact Rep.mono (rdF_keep fun a u e _ => k a u e) q
    | own => exact Own.keep q fun a u e _ => k a u e
    | io b => exact ⟨Own.keep q.1 fun a u e _ => k a u e, q.2⟩
    | bx =>
      obtain ⟨a, c, z⟩ := q
      exact ⟨a, c, z.keep (fun a u e _ => k a u e)⟩
    | bio a c => exact BoxAt.keep q (fun a u e _ => k a u e)
    | bc c => exact q
end

abbrev CE := Env → Option (D × Env)
/-- the reading of an expression that is denoted by f: with modes M, result held by m; w: it may write -/
def TD (K : PySem.W.Frag) (B : Addr → Prop) (M : MEnv) (w : Bool) (f : CE) (m : Md) : TE := fun σ H Q => ∃ δ o d δ', R K B H σ δ M o ∧ f δ = some (d, δ') ∧
  ∀ v H' o' p, Kp w o H H' → R K B H' σ δ' M o' → Sub o H o' → RRep K H' B m d v p → (∀ a, p a → H a = none ∧ ¬ o'.any a) → (∀ a, p a → ∃ u, H' a = some u ∧ Mut (some u)) → Q v H'
abbrev DE (X : Cx) (B : Addr → Prop) (M : MEnv) (w : Bool) (e : Expr) (f : CE) (m : Md) : Prop := PE X e (TD X.K B M w f m)

theorem PE.mono {X : Cx} {e : Expr} {t t' : TE} (h : PE X e t) (i : ∀ σ H Q, t' σ H Q → t σ H Q) : PE X e t' := ⟨fun pins s σ H Q I q => h.run pins s σ H Q I (i σ H Q q)⟩
theorem PT.mono {X : Cx} {e : Expr} {t t' : TT} (h : PT X e t) (i : ∀ σ H Q, t' σ H Q → t σ H Q) : PT X e t' := ⟨fun pins s σ H Q I q => h.run pins s σ H Q I (i σ H Q q)⟩
theorem PA.mono {X : Cx} {e : List Expr} {t t' : TA} (h : PA X e t) (i : ∀ σ H Q, t' σ H Q → t σ H Q) : PA X e t' := ⟨fun ps pins s σ H Q I q => h.run ps pins s σ H Q I (i σ H Q q)⟩
theorem PS.mono {X : Cx} {e : Stmt} {t t' : TS} (h : PS X e t) (i : ∀ D σ H, t' D σ H → t D σ H) : PS X e t' := ⟨fun pins s σ H D I q => h.run pins s σ H D I (i D σ H q)⟩
theorem PSs.mono {X : Cx} {e : List Stmt} {t t' : TS} (h : PSs X e t) (i : ∀ D σ H, t' D σ H → t D σ H) : PSs X e t' := ⟨fun pins s σ H D I q => h.run pins s σ H D I (i D σ H q)⟩
theorem OpR.imp {X : Cx} {f : Value → Value → Sem Value} {r r' : R2} (h : OpR X f r) (i : ∀ x y H Q, r' x y H Q → r x y H Q) : OpR X f r' :=
  fun pins s σ H x y v u Q I rx ry q => h pins s σ H x y v u Q I rx ry (i x y H Q q)
theorem UnR.imp {X : Cx} {f : Value → Sem Value} {r r' : V → Hp → VK → Prop} (h : UnR X f r) (i : ∀ x H Q, r' x H Q → r x H Q) : UnR X f r' :=
  fun pins s σ H x v Q I rx q => h pins s σ H x v Q I rx (i x H Q q)
theorem CallR.imp {X : Cx} {f : Value} {r r' : List V → Hp → VK → Prop} (h : CallR X f r) (i : ∀ x H Q, r' x H Q → r x H Q) : CallR X f r' :=
  fun pins s σ H xs us Q I rx q => h pins s σ H xs us Q I rx (i xs H Q q)

/-- sizes: what stands is not longer than a list may be -/
def Sz (K : PySem.W.Frag) (H : Hp) : Prop := ∀ a vs, (SqL K H a vs ∨ SqT K H a vs) → vs.length ≤ sizeLine
theorem Sz.of {X : Cx} {pins : List (Addr × Obj)} {s : Shared} {σ : L2.St} {H : Hp} (I : Inv X pins σ H s) : Sz X.K H := fun a vs h => by
  rcases h with h | h
  · obtain ⟨_, _, _, z⟩ := I.list h
    exact z
  · obtain ⟨_, _, _, z⟩ := I.tuple h
    exact z
theorem PE.sz {X : Cx} {e : Expr} {t : TE} (h : PE X e t) : PE X e (fun σ H Q => t σ H fun v H' => Sz X.K H' → Q v H') :=
  ⟨fun pins s σ H Q I q => thn (h.run pins s σ H _ I q) fun u s' ⟨v, H', I', r, q'⟩ => ⟨v, H', I', r, q' (Sz.of I')⟩⟩

/-- an operation on data: what it asks of values, what it gives -/
def Res (K : PySem.W.Frag) (mo : Md) (r : D) (H : Hp) (Q : VK) : Prop := ∀ z H' p, Ext H H' → (∀ B, RRep K H' B mo r z p) → (∀ a, p a → H a = none) → (∀ a, p a → ∃ u, H' a = some u ∧ Mut (some u)) → Q z H'
def rD2 (K : PySem.W.Frag) (φ : D → D → Option D) (mo : Md) : R2 := fun x y H Q => ∃ d e r, Rep (rdL K H) d x ∧ Rep (rdL K H) e y ∧ φ d e = some r ∧ (Sz K H → Res K mo r H Q)
def rD1 (K : PySem.W.Frag) (φ : D → Option D) (mo : Md) : V → Hp → VK → Prop := fun x H Q => ∃ d r, Rep (rdL K H) d x ∧ φ d = some r ∧ (Sz K H → Res K mo r H Q)

def c2 (φ : D → D → Option D) (f g : CE) : CE := fun δ => (f δ).bind fun p => (g p.2).bind fun q => (φ p.1 q.1).bind fun r => some (r, q.2)
def c1 (φ : D → Option D) (f : CE) : CE := fun δ => (f δ).bind fun p => (φ p.1).bind fun r => some (r, p.2)
theorem c2_inv {φ : D → D → Option D} {f g : CE} {δ δ2 : Env} {r : D} (h : c2 φ f g δ = some (r, δ2)) : ∃ d e δ1, f δ = some (d, δ1) ∧ g δ1 = some (e, δ2) ∧ φ d e = some r := by
  unfold c2 at h
  obtain ⟨⟨d, δ1⟩, h1, h⟩ := Option.bind_eq_some_iff.mp h
  obtain ⟨⟨e, δ2'⟩, h2, h⟩ := Option.bind_eq_some_iff.mp h
  obtain ⟨r', h3, h⟩ := Option.bind_eq_some_iff.mp h
  cases h
  exact ⟨d, e, δ1, h1, h2, h3⟩
theorem c1_inv {φ : D → Option D} {f : CE} {δ δ2 : Env} {r : D} (h : c1 φ f δ = some (r, δ2)) : ∃ d, f δ = some (d, δ2) ∧ φ d = some r := by
  unfold c1 at h
  obtain ⟨⟨d, δ1⟩, h1, h⟩ := Option.bind_eq_some_iff.mp h
  obtain ⟨r', h3, h⟩ := Option.bind_eq_some_iff.mp h
  cases h
  exact ⟨d, h1, h3⟩

section
variable {X : Cx} {B : Addr → Prop} {M : MEnv} {wa wb : Bool} {a b : Expr} {f g : CE} {ma mb mo : Md} {pos : Pos}
/-- a fresh result is no slot's -/
theorem R.fresh {K : PySem.W.Frag} {H : Hp} {σ : L2.St} {δ : Env} {M : MEnv} {o : Fp} (r : R K B H σ δ M o) {a : Addr} (h : H a = none) : ¬ o.any a := fun ⟨i, q⟩ => by
  obtain ⟨u, e, _⟩ := r.cell i a q
  rw [h] at e
  cases e
/-- two operands, then an operation on data -/
theorem td_2 {φ : D → D → Option D} (K : PySem.W.Frag) (ok : okm ma wb = true) (σ : L2.St) (H : Hp) (Q : VK) (h : TD K B M (wa || wb) (c2 φ f g) mo σ H Q) :
    TD K B M wa f ma σ H fun x H1 => TD K B M wb g mb σ H1 fun y H2 => rD2 K φ mo x y H2 Q := by
  obtain ⟨δ, o, r, δ2, hR, hf, k⟩ := h
  obtain ⟨d, e, δ1, h1, h2, h3⟩ := c2_inv hf
  refine ⟨δ, o, d, δ1, hR, h1, fun v H1 o1 p1 k1 R1 s1 r1 f1 c1 => ⟨δ1, o1, e, δ2, R1, h2, fun w H2 o2 p2 k2 R2 s2 r2 f2 c2 => ?_⟩⟩
  refine ⟨d, e, r, (RRep.keep (σ := σ) (M := M) R1 r1 k2 (fun a q => (f1 a q).2) ok).lent, r2.lent, h3, fun _ z H3 p3 k3 r3 f3 c3 => ?_⟩
  have kk : Kp (wa || wb) o H H2 := (k1.up fun z => by rw [z]; rfl).trans s1 (k2.up fun z => by rw [z]; simp)
  have ss : Sub o H o2 := s1.trans k1 s2
  exact k z H3 o2 p3 (kk.trans ss (Kp.all k3)) (R2.keep k3) ss (r3 B) (fun a q => ⟨kk.there a (f3 a q), R2.fresh (f3 a q)⟩) c3
end
end Dn
namespace Dn
open PySem PySem.Spec PyProof.Rows L2
variable [Wd]

section
variable {X : Cx} {B : Addr → Prop} {M : MEnv} {w wa wb : Bool} {a b e : Expr} {f g : CE} {m ma mb mo : Md} {pos : Pos}

def cst (d : D) : CE := fun δ => some (d, δ)
def rd (i : Nat) : CE := fun δ => match δ[i]? with | some (some d) => some (d, δ) | _ => none
theorem rd_inv {i : Nat} {δ δ' : Env} {d : D} (h : rd i δ = some (d, δ')) : δ[i]? = some (some d) ∧ δ' = δ := by
  unfold rd at h
  split at h
  · rename_i d' e
    cases h
    exact ⟨e, rfl⟩
  · cases h
theorem td_cst {K : PySem.W.Frag} {d : D} {v : V} {σ : L2.St} {H : Hp} {Q : VK} (r : ∀ H, Rep (rdF K H) d v) (h : TD K B M false (cst d) .frz σ H Q) : tC v σ H Q := by
  obtain ⟨δ, o, d', δ', hR, hf, k⟩ := h
  cases hf
  exact k v H o noP (Kp.refl _ _ _) hR (Sub.refl _ _) (r H) (fun _ z => z.elim) (fun _ z => z.elim)
theorem de_int {i : Int} {j : Nat} : DE X B M false (.Constant (.int i) j pos) (cst (.int i)) .frz := PE.mono pe_int fun _ _ _ h => td_cst (fun _ => .int i) h
theorem de_str {x : Str} {j : Nat} : DE X B M false (.Constant (.str x) j pos) (cst (.str x)) .frz := PE.mono pe_str fun _ _ _ h => td_cst (fun _ => .str x) h
theorem de_bl {c : Bool} {j : Nat} : DE X B M false (.Constant (.bool c) j pos) (cst (.bool c)) .frz := PE.mono pe_bl fun _ _ _ h => td_cst (fun _ => .bl c) h
theorem de_non {j : Nat} : DE X B M false (.Constant .none j pos) (cst .none) .frz := PE.mono pe_non fun _ _ _ h => td_cst (fun _ => .non) h
/-- a module's constant -/
def Kon (K : PySem.W.Frag) (mg : Str → Option Value) (x : Str) (d : D) : Prop := ∃ u v, mg x = some u ∧ RelV v u ∧ ∀ H, Rep (rdF K H) d v
theorem de_glob {x : Str} {d : D} (hk : Kon X.K X.mg x d) (hg : Gl X x) (hd : (x == ("__debug__" : Str)) = false) : DE X B M false (.Name x pos) (cst d) .frz := by
  obtain ⟨u, v, hm, r, h⟩ := hk
  exact PE.mono (pe_glob hg hm r hd) fun _ _ _ q => td_cst h q
/-- the mode in which a slot is read -/
def rdM : Md → Md | .frz => .frz | .sta => .sta | _ => .len
/-- may the slot be read as it is -/
def Md.vb : Md → Bool | .bc _ => false | _ => true
theorem td_var {K : PySem.W.Frag} {i : Nat} {σ : L2.St} {H : Hp} {Q : VK} (hM : M[i]? = some (some m)) (hb : m.vb = true) (h : TD K B M false (rd i) (rdM m) σ H Q) : tVar i σ H Q := by
  obtain ⟨δ, o, d, δ', hR, hf, k⟩ := h
  obtain ⟨hd, rfl⟩ := rd_inv hf
  obtain ⟨v, e, r⟩ := hR.at_ i m d hM hd
  refine ⟨v, e, k v H o noP (Kp.refl _ _ _) hR (Sub.refl _ _) ?_ (fun _ z => z.elim) (fun _ z => z.elim)⟩
  cases m with
  | len => exact r.elim
  | sta => exact r
  | frz => exact r
  | own => exact Own.lent r
  | io a => exact Own.lent r.1
  | bx =>
    obtain ⟨a, c, z⟩ := r
    exact z.lent
  | bio a c => exact BoxAt.lent r
  | bc c => cases hb
theorem de_var {i : Nat} {x : Str} (hM : M[i]? = some (some m)) (h : PE X (.Name x pos) (tVar i)) (hb : m.vb = true := by rfl) : DE X B M false (.Name x pos) (rd i) (rdM m) := PE.mono h fun _ _ _ q => td_var hM hb q

theorem DE.up {w' : Bool} (h : DE X B M w e f m) (hw : w = true → w' = true) : DE X B M w' e f m := PE.mono h fun σ H Q q => by
  obtain ⟨δ, o, d, δ', hR, hf, k⟩ := q
  exact ⟨δ, o, d, δ', hR, hf, fun v H' o' p k1 R1 s1 r1 f1 c1 => k v H' o' p (k1.up hw) R1 s1 r1 f1 c1⟩
mutual
/-- data without lists and dicts in it -/
def immut : D → Bool
  | .list _ => false
  | .dict _ => false
  | .tuple ds => immutAll ds
  | .none => true
  | .bool _ => true
  | .int _ => true
  | .str _ => true
def immutAll : List D → Bool
  | [] => true
  | d :: ds => immut d && immutAll ds
end
mutual
theorem Rep.imm {r r' : Rdr} (ht : ∀ a vs, r.T a vs → r'.T a vs) : ∀ {d : D} {v : V}, Rep r d v → immut d = true → Rep r' d v
  | _, _, .non, _ => .non
  | _, _, .bl b, _ => .bl b
  | _, _, .int i, _ => .int i
  | _, _, .str x, _ => .str x
  | _, _, .lst _ _, h => by simp [immut] at h
  | _, _, .dic _ _ _, h => by simp [immut] at h
  | _, _, .tup a b, h => .tup (ht _ _ a) (RepAll.imm ht b (by simpa [immut] using h))
theorem RepAll.imm {r r' : Rdr} (ht : ∀ a vs, r.T a vs → r'.T a vs) : ∀ {ds : List D} {vs : List V}, RepAll r ds vs → immutAll ds = true → RepAll r' ds vs
  | _, _, .nil, _ => .nil
  | _, _, .cons a b, h => by
    simp only [immutAll, Bool.and_eq_true] at h
    exact .cons (Rep.imm ht a h.1) (RepAll.imm ht b h.2)
end
/-- what is read and has no list in it may be kept -/
def imm (f : CE) : CE := fun δ => (f δ).bind fun p => if immut p.1 = true then some p else none
/-- things of one's own locked -/
def Lk (H H' : Hp) : Prop := ∀ a u, H a = some u → H' a = some u ∨ (Mut (some u) ∧ ∃ od, H' a = some (.frz od u))
theorem Lk.refl (H : Hp) : Lk H H := fun _ _ e => .inl e
theorem Lk.sq {K : PySem.W.Frag} {H H' : Hp} (l : Lk H H') {a : Addr} {vs : List V} (h : SqL K H a vs) : SqL K H' a vs := by
  rcases h with (h | ⟨o, h⟩) | h
  · rcases l _ _ h with q | ⟨_, od, q⟩
    · exact .inl (.inl q)
    · exact .inl (.inr ⟨od, q⟩)
  · rcases l _ _ h with q | ⟨mu, _⟩
    · exact .inl (.inr ⟨o, q⟩)
    · exact mu.elim
  · exact .inr h
theorem Lk.rd {H H' : Hp} (l : Lk H H') {a : Addr} {xs : List (V × Int × V)} (h : Rd H a (DicO a xs)) : Rd H' a (DicO a xs) := by
  rcases h with h | ⟨o, h⟩
  · rcases l _ _ h with q | ⟨_, od, q⟩
    · exact .inl q
    · exact .inr ⟨od, q⟩
  · rcases l _ _ h with q | ⟨mu, _⟩
    · exact .inr ⟨o, q⟩
    · exact mu.elim
theorem Lk.dic {K : PySem.W.Frag} {H H' : Hp} (l : Lk H H') {a : Addr} {xs : List (V × Int × V)} (h : DicL K H a xs) : DicL K H' a xs := h.imp l.rd id
theorem Lk.fix {H H' : Hp} (l : Lk H H') : ∀ a u, H a = some u → ¬ Mut (some u) → H' a = some u := fun a u e n => by
  rcases l a u e with q | ⟨mu, _⟩
  · exact q
  · exact absurd mu n
theorem Lk.there {H H' : Hp} (l : Lk H H') (n : ∀ a, H' a = none → H a = none := by assumption) : ∀ a, H' a = none → H a = none := n
theorem rdF_lk {K : PySem.W.Frag} {H H' : Hp} (l : Lk H H') : (rdF K H).le (rdF K H') := rdF_keep l.fix
theorem rdA_lk {K : PySem.W.Frag} {H H' : Hp} {B : Addr → Prop} (l : Lk H H') : (rdA K H B).le (rdA K H' B) := by
  refine ⟨fun a vs h => ⟨l.sq h.1, h.2.imp id fun q => LstF.keep q fun u e n => l.fix _ u e n⟩, fun _ _ h => TupF.keep h fun u e n => l.fix _ u e n, fun a xs h => ⟨l.dic h.1, h.2.imp id fun q => DicF.keep q fun u e n => l.fix _ u e n⟩, rfl⟩
/-- the frame holds the same when things that no slot may write are locked -/
theorem R.lock {K : PySem.W.Frag} {H H' : Hp} {σ : L2.St} {δ : Env} {M : MEnv} {o : Fp} (r : R K B H σ δ M o) (l : Lk H H') (k : ∀ a u, H a = some u → o.any a → H' a = some u) : R K B H' σ δ M o := by
  refine ⟨r.len, r.dis, fun i a h => ?_, r.sep, fun a h => ?_, fun i m d h1 h2 => ?_⟩
  · obtain ⟨u, e, mu⟩ := r.cell i a h
    exact ⟨u, k a u e ⟨i, h⟩, mu⟩
  · obtain ⟨u, e⟩ := r.dom a h
    rcases l a u e with q | ⟨_, od, q⟩
    · exact ⟨u, q⟩
    · exact ⟨_, q⟩
  · obtain ⟨v, e, q⟩ := r.at_ i m d h1 h2
    have kk : ∀ a u, H a = some u → (o i a ∨ ¬ Mut (some u)) → H' a = some u := fun a u e n => by
      rcases n with n | n
      · exact k a u e ⟨i, n⟩
      · exact l.fix a u e n
    refine ⟨v, e, ?_⟩
    cases m with
    | len => exact q.elim
    | sta => exact Rep.mono (rdA_lk l) q
    | frz => exact Rep.mono (rdF_lk l) q
    | own => exact Own.keep q kk
    | io b => exact ⟨Own.keep q.1 kk, q.2⟩
    | bx =>
      obtain ⟨a, c, z⟩ := q
      exact ⟨a, c, z.keep kk⟩
    | bio a c => exact BoxAt.keep q kk
    | bc c => exact q
/-- what is one's own becomes frozen for ever -/
theorem own_frz {pins : List (Addr × Obj)} {s : Shared} {σ : L2.St} {H : Hp} {d : D} {v : V} {p : Addr → Prop} (I : Inv X pins σ H s) (h : Own X.K H d v p) :
    ∃ H', Inv X pins σ H' s ∧ Rep (rdF X.K H') d v ∧ Lk H H' ∧ (∀ a u, H a = some u → ¬ p a → H' a = some u) ∧ (∀ a, H' a = none → H a = none) := by
  have stay : ∀ {a : Addr} {u : HO} {od : Obj}, H a = some u → Mut (some u) → p a → Lk H (upd H a (.frz od u)) ∧ (∀ b v, H b = some v → ¬ p b → upd H a (.frz od u) b = some v) ∧ (∀ b, upd H a (.frz od u) b = none → H b = none) := by
    intro a u od e mu q
    refine ⟨fun b v e' => ?_, fun b v e' n => ?_, fun b n => ?_⟩
    · by_cases hb : b = a
      · rw [hb] at e' ⊢
        rw [e] at e'; cases e'
        exact .inr ⟨mu, od, upd_same⟩
      · rw [upd_ne hb]; exact .inl e'
    · rw [upd_ne (fun z => n (by rw [z]; exact q))]; exact e'
    · by_cases hb : b = a
      · rw [hb, upd_same] at n; cases n
      · rw [upd_ne hb] at n; exact n
  cases d with
  | list ds =>
    obtain ⟨a, vs, rfl, q, hl, r⟩ := h
    obtain ⟨od, I1⟩ := I.lock hl trivial
    obtain ⟨s1, s2, s3⟩ := stay (od := od) hl trivial q
    exact ⟨_, I1, .lst (.inl ⟨od, upd_same⟩) (RepAll.mono (rdF_lk s1) r), s1, s2, s3⟩
  | dict kvs =>
    obtain ⟨a, xs, rfl, q, hl, r, ok⟩ := h
    obtain ⟨od, I1⟩ := I.lock hl trivial
    obtain ⟨s1, s2, s3⟩ := stay (od := od) hl trivial q
    exact ⟨_, I1, .dic ⟨od, .inl upd_same⟩ (RepKv.mono (rdF_lk s1) r) ok, s1, s2, s3⟩
  | none => exact ⟨H, I, h, Lk.refl H, fun _ _ e _ => e, fun _ e => e⟩
  | bool _ => exact ⟨H, I, h, Lk.refl H, fun _ _ e _ => e, fun _ e => e⟩
  | int _ => exact ⟨H, I, h, Lk.refl H, fun _ _ e _ => e, fun _ e => e⟩
  | str _ => exact ⟨H, I, h, Lk.refl H, fun _ _ e _ => e, fun _ e => e⟩
  | tuple _ => exact ⟨H, I, h, Lk.refl H, fun _ _ e _ => e, fun _ e => e⟩
theorem DE.frzOf (h : DE X B M w e f .own) : DE X B M w e f .frz := by
  refine ⟨fun pins s σ H Q I q => ?_⟩
  obtain ⟨δ, o, d, δ', hR, hf, k⟩ := q
  refine thn (h.run pins s σ H (fun v H' => ∃ (o' : Fp) (p : Addr → Prop), Kp w o H H' ∧ R X.K B H' σ δ' M o' ∧ Sub o H o' ∧ Own X.K H' d v p ∧ (∀ a, p a → H a = none ∧ ¬ o'.any a)) I
    ⟨δ, o, d, δ', hR, hf, fun v H' o' p k1 R1 s1 r1 f1 c1 => ⟨o', p, k1, R1, s1, r1, f1⟩⟩) fun u s' ⟨v, H1, I1, rv, o', p, k1, R1, s1, r1, f1⟩ => ?_
  obtain ⟨H2, I2, r2, l2, k2, t2⟩ := own_frz I1 r1
  refine ⟨v, H2, I2, rv, k v H2 o' noP ⟨fun a u e n => k2 a u (k1.keep a u e n) fun z => ?_, fun a n => k1.there a (t2 a n)⟩ (R1.lock l2 fun a u e n => k2 a u e fun z => (f1 a z).2 n) s1 r2 (fun _ z => z.elim) (fun _ z => z.elim)⟩
  rw [(f1 a z).1] at e
  cases e

mutual
theorem Rep.dp {K : PySem.W.Frag} {H : Hp} : ∀ {d : D} {v : V}, Rep (rdL K H) d v → d.canLay0 = true → Dp K H v d
  | _, _, .non, _ => .non
  | _, _, .bl b, _ => .bl b
  | _, _, .int i, _ => .int i
  | _, _, .str x, _ => .str x
  | _, _, .lst a b, h => .lst a (RepAll.dp b (by simpa [PyData.canLay0] using h))
  | _, _, .tup a b, h => .tup (TupF.sq a) (RepAll.dp b (by simpa [PyData.canLay0] using h))
  | _, _, .dic _ _ _, h => by simp [PyData.canLay0] at h
theorem RepAll.dp {K : PySem.W.Frag} {H : Hp} : ∀ {ds : List D} {vs : List V}, RepAll (rdL K H) ds vs → PyData.canLayAll0 ds = true → DpAll K H vs ds
  | _, _, .nil, _ => .nil
  | _, _, .cons a b, h => by
    simp only [PyData.canLayAll0, Bool.and_eq_true] at h
    exact .cons (Rep.dp a h.1) (RepAll.dp b h.2)
end
theorem Res.val {K : PySem.W.Frag} {r : D} {H : Hp} {Q : VK} {v : V} (h : Res K .frz r H Q) (hv : Rep (rdF K H) r v) : Q v H := h v H noP (Ext.refl H) (fun _ => hv) (fun _ z => z.elim) fun _ z => z.elim
theorem de_op {op : Operator} {φ : D → D → Option D} (ok : okm ma wb = true) (ho : OpR X (binaryOp op) (rD2 X.K φ mo)) (ha : DE X B M wa a f ma) (hb : DE X B M wb b g mb) : DE X B M (wa || wb) (.BinOp a op b pos) (c2 φ f g) mo :=
  PE.mono (pe_op ho ha hb) fun σ H Q h => td_2 X.K ok σ H Q h
theorem de_cmp {op : CmpOp} {φ : D → D → Option D} (ok : okm ma wb = true) (ho : OpR X (compareOp op) (rD2 X.K φ mo)) (ha : DE X B M wa a f ma) (hb : DE X B M wb b g mb) (hk : behindInMarks op b = false) : DE X B M (wa || wb) (.Compare a [op] [b] pos) (c2 φ f g) mo :=
  PE.mono (pe_cmpR ho ha hb hk) fun σ H Q h => td_2 X.K ok σ H Q h
/-- one operand, then an operation on data -/
theorem td_1 {φ : D → Option D} (K : PySem.W.Frag) (σ : L2.St) (H : Hp) (Q : VK) (h : TD K B M wa (c1 φ f) mo σ H Q) :
    TD K B M wa f ma σ H fun x H1 => rD1 K φ mo x H1 Q := by
  obtain ⟨δ, o, r, δ1, hR, hf, k⟩ := h
  obtain ⟨d, h1, h3⟩ := c1_inv hf
  exact ⟨δ, o, d, δ1, hR, h1, fun v H1 o1 p1 k1 R1 s1 r1 f1 c1 => ⟨d, r, r1.lent, h3, fun _ z H3 p3 k3 r3 f3 c3 =>
    k z H3 o1 p3 (k1.trans s1 (Kp.all k3)) (R1.keep k3) s1 (r3 B) (fun a q => ⟨k1.there a (f3 a q), R1.fresh (f3 a q)⟩) c3⟩⟩
theorem de_un {op : UnaryOp} {φ : D → Option D} (ho : UnR X (unaryOp op) (rD1 X.K φ mo)) (ha : DE X B M wa a f ma) : DE X B M wa (.UnaryOp op a pos) (c1 φ f) mo :=
  PE.mono (pe_un ho ha) fun σ H Q h => td_1 X.K σ H Q h
end

def dI (C : Int → Int → Bool) (g : Int → Int → D) : D → D → Option D
  | .int i, .int j => if C i j = true then some (g i j) else none
  | _, _ => none
section
variable {X : Cx}
theorem rI_of {K : PySem.W.Frag} {C : Int → Int → Bool} {C' : Int → Int → Prop} {g : Int → Int → D} {g' : Int → Int → V} (hC : ∀ i j, C i j = true → C' i j) (hg : ∀ i j H, Rep (rdF K H) (g i j) (g' i j)) :
    ∀ x y H Q, rD2 K (dI C g) .frz x y H Q → Sz K H → rI C' g' x y H Q := by
  rintro x y H Q ⟨d, e, r, hd, he, hr, k⟩ sz
  cases hd <;> try (simp [dI] at hr; done)
  cases he <;> try (simp [dI] at hr; done)
  rename_i i j
  simp only [dI] at hr
  split at hr
  · rename_i hc
    cases hr
    exact ⟨i, j, rfl, rfl, hC i j hc, (k sz).val (hg i j H)⟩
  · cases hr
end
end Dn
namespace Dn
open PySem PySem.Spec PyProof.Rows L2
variable [Wd]

def getK : List (D × D) → D → Option D
  | [], _ => none
  | (j, d) :: r, k => if nk j = nk k then some d else getK r k
def putK' : List (D × D) → D → D → List (D × D)
  | [], k, d => [(k, d)]
  | (j, e) :: r, k, d => if nk j = nk k then (j, d) :: r else (j, e) :: putK' r k d
def getX : List (D × D) → List (V × Int × V) → D → Option V
  | (j, _) :: r, x :: xs, k => if nk j = nk k then some x.2.2 else getX r xs k
  | _, _, _ => none
def putX : List (D × D) → List (V × Int × V) → D → V × Int × V → List (V × Int × V)
  | (j, _) :: r, x :: xs, k, y => if nk j = nk k then (x.1, x.2.1, y.2.2) :: xs else x :: putX r xs k y
  | _, xs, _, y => xs ++ [y]
/-- may k be asked of the dict -/
def kyOk (kvs : List (D × D)) (k : D) : Bool := keyG k && (isT k && (kvs.all fun p => isT p.1) || isF k && (kvs.all fun p => isF p.1))
theorem kyGood {kvs : List (D × D)} {k : D} (h : kyOk kvs k = true) : keyG k = true := (Bool.and_eq_true_iff.mp h).1
theorem kyKind {kvs : List (D × D)} {k : D} (h : kyOk kvs k = true) : (isT k = true ∧ ∀ p ∈ kvs, isT p.1 = true) ∨ (isF k = true ∧ ∀ p ∈ kvs, isF p.1 = true) := by
  rcases Bool.or_eq_true_iff.mp (Bool.and_eq_true_iff.mp h).2 with h | h
  · exact .inl ⟨(Bool.and_eq_true_iff.mp h).1, fun p hp => List.all_eq_true.mp (Bool.and_eq_true_iff.mp h).2 p hp⟩
  · exact .inr ⟨(Bool.and_eq_true_iff.mp h).1, fun p hp => List.all_eq_true.mp (Bool.and_eq_true_iff.mp h).2 p hp⟩
theorem putK_mem {k d : D} : ∀ {kvs : List (D × D)} {p : D × D}, p ∈ putK' kvs k d → p.1 = k ∨ ∃ q ∈ kvs, q.1 = p.1
  | [], p, h => by
    simp only [putK', List.mem_singleton] at h
    exact .inl (by rw [h])
  | (j, e) :: r, p, h => by
    unfold putK' at h
    split at h
    · rcases List.mem_cons.mp h with h | h
      · exact .inr ⟨(j, e), List.mem_cons_self, by rw [h]⟩
      · exact .inr ⟨p, List.mem_cons_of_mem _ h, rfl⟩
    · rcases List.mem_cons.mp h with h | h
      · exact .inr ⟨(j, e), List.mem_cons_self, by rw [h]⟩
      · rcases putK_mem h with h | ⟨q, hq, e'⟩
        · exact .inl h
        · exact .inr ⟨q, List.mem_cons_of_mem _ hq, e'⟩
theorem putK_keys (k d : D) : ∀ kvs : List (D × D), (putK' kvs k d).map (fun p => nk p.1) = if nk k ∈ kvs.map (fun p => nk p.1) then kvs.map (fun p => nk p.1) else kvs.map (fun p => nk p.1) ++ [nk k]
  | [] => by simp [putK']
  | (j, e) :: r => by
    unfold putK'
    by_cases h : nk j = nk k
    · rw [if_pos h]; simp [h]
    · rw [if_neg h, List.map_cons, putK_keys k d r]
      by_cases h2 : nk k ∈ r.map fun p => nk p.1
      · rw [if_pos h2, if_pos (by rw [List.map_cons]; exact List.mem_cons_of_mem _ h2)]; rfl
      · rw [if_neg h2, if_neg (by rw [List.map_cons]; intro z; rcases List.mem_cons.mp z with z | z; exact h z.symm; exact h2 z)]; rfl
theorem putK_len (k d : D) (kvs : List (D × D)) : (putK' kvs k d).length ≤ kvs.length + 1 := by
  have h := congrArg List.length (putK_keys k d kvs)
  rw [List.length_map] at h
  rw [h]
  split
  · rw [List.length_map]; omega
  · rw [List.length_append, List.length_map]; exact Nat.le_refl _
theorem DOk.put {kvs : List (D × D)} {k : D} (ok : DOk kvs) (d : D) (hk : kyOk kvs k = true) (hl : kvs.length < sizeLine) : DOk (putK' kvs k d) := by
  refine ⟨fun p hp => ?_, ?_, ?_, by have := putK_len k d kvs; omega⟩
  · rcases putK_mem hp with h | ⟨q, hq, e⟩
    · rw [h]; exact (kyGood hk)
    · rw [← e]; exact ok.good q hq
  · rcases (kyKind hk) with ⟨h1, h2⟩ | ⟨h1, h2⟩
    · refine .inl fun p hp => ?_
      rcases putK_mem hp with h | ⟨q, hq, e⟩
      · rw [h]; exact h1
      · rw [← e]; exact h2 q hq
    · refine .inr fun p hp => ?_
      rcases putK_mem hp with h | ⟨q, hq, e⟩
      · rw [h]; exact h1
      · rw [← e]; exact h2 q hq
  · rw [putK_keys]
    split
    · exact ok.nodup
    · rename_i h
      exact List.nodup_append.mpr ⟨ok.nodup, by simp, fun a ha b hb => by
        rw [List.mem_singleton] at hb
        subst hb
        intro z
        exact h (z ▸ ha)⟩
theorem RepKv.put {r : Rdr} {k d : D} {kv v : V} (hk : Rep r k kv) (hd : Rep r d v) : ∀ {kvs : List (D × D)} {xs : List (V × Int × V)}, RepKv r kvs xs → RepKv r (putK' kvs k d) (putX kvs xs k (kv, r.hk k, v))
  | _, _, .nil => .cons hk hd .nil
  | _, _, .cons (k := j) (d := e) a b c => by
    unfold putK' putX
    by_cases h : nk j = nk k
    · rw [if_pos h, if_pos h]; exact .cons a hd c
    · rw [if_neg h, if_neg h]; exact .cons a b (RepKv.put hk hd c)
theorem RepKv.get {r : Rdr} {k d : D} : ∀ {kvs : List (D × D)} {xs : List (V × Int × V)}, RepKv r kvs xs → getK kvs k = some d → ∃ v, getX kvs xs k = some v ∧ Rep r d v
  | _, _, .nil, h => by cases h
  | _, _, .cons (k := j) a b c, h => by
    unfold getK at h
    unfold getX
    by_cases e : nk j = nk k
    · rw [if_pos e] at h ⊢
      cases h
      exact ⟨_, rfl, b⟩
    · rw [if_neg e] at h ⊢
      exact RepKv.get c h
theorem RepKv.getN {r : Rdr} {k : D} : ∀ {kvs : List (D × D)} {xs : List (V × Int × V)}, RepKv r kvs xs → getK kvs k = none → getX kvs xs k = none
  | _, _, .nil, h => rfl
  | _, _, .cons (k := j) a b c, h => by
    unfold getK at h
    unfold getX
    by_cases e : nk j = nk k
    · rw [if_pos e] at h; cases h
    · rw [if_neg e] at h ⊢
      exact RepKv.getN c h
theorem RepKv.isSome {r : Rdr} {k : D} {kvs : List (D × D)} {xs : List (V × Int × V)} (h : RepKv r kvs xs) : (getX kvs xs k).isSome = (getK kvs k).isSome := by
  cases e : getK kvs k with
  | none => rw [h.getN e]; rfl
  | some d =>
    obtain ⟨v, hv, _⟩ := h.get e
    rw [hv]; rfl
theorem RepKv.length {r : Rdr} : ∀ {kvs : List (D × D)} {xs : List (V × Int × V)}, RepKv r kvs xs → kvs.length = xs.length
  | _, _, .nil => rfl
  | _, _, .cons _ _ c => congrArg (· + 1) (RepKv.length c)

section
variable {X : Cx} {pins : List (Addr × Obj)} {σ : L2.St} {H : Hp} {s : Shared}
mutual
theorem Rep.nested (I : Inv X pins σ H s) : ∀ {d : D} {v : V} {u : Value}, Rep (rdL X.K H) d v → RelV v u → keyP d = true → NestedIs s.heap (nk d) u
  | _, _, _, .non, r, _ => by cases (show _ = Value.none from r); exact .none
  | _, _, _, .bl _, _, h => by simp [keyP] at h
  | _, _, _, .int i, r, _ => by obtain ⟨t, rfl⟩ := r; exact .int _ _
  | _, _, _, .str x, r, _ => by obtain ⟨t, rfl⟩ := r; exact .text _ _
  | _, _, _, .lst _ _, _, h => by simp [keyP] at h
  | _, _, _, .tup ha hb, r, h => by
    cases (show _ = Value.ref _ from r)
    obtain ⟨its, rv, ⟨o, ho, hc, n, hd⟩, _⟩ := I.tuple (TupF.sq ha)
    exact .tup ho hc hd (by simpa using RepAll.nested I hb rv (by simpa [keyP] using h))
  | _, _, _, .dic _ _ _, _, h => by simp [keyP] at h
theorem RepAll.nested (I : Inv X pins σ H s) : ∀ {ds : List D} {vs : List V} {us : List Value}, RepAll (rdL X.K H) ds vs → Vals vs us → keyPs ds = true → NestedAll s.heap (nks ds) us
  | _, _, _, .nil, .nil, _ => .nil
  | _, _, _, .cons a b, .cons r t, h => by
    simp only [keyPs, Bool.and_eq_true] at h
    exact .cons (Rep.nested I a r h.1) (RepAll.nested I b t h.2)
end
end

def refA : Value → Addr | .ref a => a | _ => 0
def mk3 : List (D × D) → List DictEntry → List (NestedKey × Addr × Value)
  | p :: ps, e :: es => (nk p.1, refA e.key, e.val) :: mk3 ps es
  | _, _ => []
def fk : D → Key | .int i => .inl i | .str x => .inr x | _ => .inl 0
def mk2 : List (D × D) → List DictEntry → List (Key × Value)
  | p :: ps, e :: es => (fk p.1, e.val) :: mk2 ps es
  | _, _ => []
theorem isF_cases {d : D} (h : isF d = true) : (∃ i, d = .int i) ∨ ∃ x, d = .str x := by
  cases d <;> simp [isF] at h
  · exact .inl ⟨_, rfl⟩
  · exact .inr ⟨_, rfl⟩
theorem isT_cases {d : D} (h : isT d = true) : ∃ ds, d = .tuple ds := by
  cases d <;> simp [isT] at h
  exact ⟨_, rfl⟩
theorem fk_nk {d e : D} (hd : isF d = true) (he : isF e = true) : fk d = fk e ↔ nk d = nk e := by
  rcases isF_cases hd with ⟨i, rfl⟩ | ⟨x, rfl⟩ <;> rcases isF_cases he with ⟨j, rfl⟩ | ⟨y, rfl⟩ <;> simp [fk, nk]
theorem valueAt_cons {κ : Type} [DecidableEq κ] {x : κ × Value} {xs : List (κ × Value)} {k : κ} : valueAt (x :: xs) k = if x.1 = k then some x.2 else valueAt xs k := by
  unfold valueAt
  rw [List.find?_cons]
  by_cases h : x.1 = k <;> simp [h]
theorem atKey_cons {κ : Type} [DecidableEq κ] {x : κ × Addr × Value} {xs : List (κ × Addr × Value)} {k : κ} : atKey (x :: xs) k = if x.1 = k then some x.2 else atKey xs k := by
  unfold atKey
  rw [List.find?_cons]
  by_cases h : x.1 = k <;> simp [h]

section
variable {X : Cx} {pins : List (Addr × Obj)} {σ : L2.St} {H : Hp} {s : Shared}
/-- tuple keys -/
theorem mk3_ok (hw : X.w = Wd.w) (I : Inv X pins σ H s) : ∀ {kvs : List (D × D)} {xs : List (V × Int × V)} {el : List DictEntry}, RepKv (rdL X.K H) kvs xs → Paired EntR xs el → (∀ p ∈ kvs, isT p.1 = true) → (∀ p ∈ kvs, keyG p.1 = true) →
    el = (mk3 kvs el).map (entryOfKey (nestedKind X.prog X.w)) ∧ (∀ x ∈ mk3 kvs el, (nestedKind X.prog X.w).is s.heap x.1 x.2.1) ∧ (mk3 kvs el).map (·.1) = kvs.map fun p => nk p.1
  | _, _, _, .nil, .nil, _, _ => ⟨rfl, fun _ h => (nomatch h), rfl⟩
  | _, _, e :: el, .cons (k := k) (d := d) (kvs := kvs) (kv := kv) (v := v) (xs := xs) hk hd r, .cons he t, hT, hG => by
    obtain ⟨h1, h2, h3⟩ := mk3_ok hw I r t (fun p hp => hT p (List.mem_cons_of_mem _ hp)) (fun p hp => hG p (List.mem_cons_of_mem _ hp))
    obtain ⟨e1, e2, e3⟩ := he
    have kT : isT k = true := hT (k, d) List.mem_cons_self
    have kG : keyG k = true := hG (k, d) List.mem_cons_self
    obtain ⟨ds, rfl⟩ := isT_cases kT
    have kG' := Bool.and_eq_true_iff.mp kG
    have nest := Rep.nested I hk e1 kG'.1
    have dep : (nk (.tuple ds)).depth ≤ 8 := of_decide_eq_true kG'.2
    cases hk with
    | @tup a vs _ ha hb =>
      have ek : e.key = .ref a := e1
      have eh : e.hash = (nk (.tuple ds)).hash Wd.w := e2
      refine ⟨?_, fun x hx => ?_, ?_⟩
      · show e :: el = _ :: (mk3 kvs el).map _
        rw [← h1]
        congr 1
        show e = ⟨(nk (.tuple ds)).hash X.w, .ref (refA e.key), e.val⟩
        rw [hw, ← eh, ek]
        show e = ⟨e.hash, .ref a, e.val⟩
        rw [← ek]
      · rcases List.mem_cons.mp hx with hx | hx
        · rw [hx]
          show NestedIs s.heap (nk (.tuple ds)) (.ref (refA e.key)) ∧ _
          rw [ek] at nest ⊢
          exact ⟨nest, dep⟩
        · exact h2 x hx
      · show nk (.tuple ds) :: (mk3 kvs el).map (·.1) = _
        rw [h3]; rfl
theorem mk3_at {k : D} : ∀ {kvs : List (D × D)} {xs : List (V × Int × V)} {el : List DictEntry}, kvs.length = xs.length → Paired EntR xs el →
    (∀ v, getX kvs xs k = some v → ∃ p, atKey (mk3 kvs el) (nk k) = some p ∧ RelV v p.2) ∧ (getX kvs xs k = none → atKey (mk3 kvs el) (nk k) = none)
  | [], _, _, _, _ => ⟨fun v h => (by cases h), fun _ => rfl⟩
  | (j, d) :: kvs, x :: xs, e :: el, hl, .cons he t => by
    obtain ⟨h1, h2⟩ := mk3_at (k := k) (kvs := kvs) (by simpa using hl) t
    have ea : atKey (mk3 ((j, d) :: kvs) (e :: el)) (nk k) = if nk j = nk k then some (refA e.key, e.val) else atKey (mk3 kvs el) (nk k) := atKey_cons
    rw [ea]
    unfold getX
    by_cases h : nk j = nk k
    · rw [if_pos h, if_pos h]
      exact ⟨fun v hv => (by cases hv; exact ⟨_, rfl, he.2.2⟩), fun z => (nomatch z)⟩
    · rw [if_neg h, if_neg h]
      exact ⟨h1, h2⟩
  | _ :: _, [], _, hl, _ => by simp at hl
/-- keys that are numbers and texts -/
theorem isF_rel {K : PySem.W.Frag} {k : D} {kv : V} {u : Value} (hk : Rep (rdL K H) k kv) (hF : isF k = true) (r : RelV kv u) : (mixKind X.prog X.w).is (fk k) u = true := by
  rcases isF_cases hF with ⟨i, rfl⟩ | ⟨x, rfl⟩
  · cases hk; obtain ⟨t, rfl⟩ := r; exact mixKind_int _ _ i t
  · cases hk; obtain ⟨t, rfl⟩ := r; exact mixKind_str _ _ x t
theorem isF_hash {k : D} (hw : X.w = Wd.w) (hF : isF k = true) : (mixKind X.prog X.w).hash (fk k) = hk0 k := by
  rcases isF_cases hF with ⟨i, rfl⟩ | ⟨x, rfl⟩
  · rfl
  · show hashStr X.w x = hashStr Wd.w x
    rw [hw]
theorem mk2_ok (hw : X.w = Wd.w) : ∀ {kvs : List (D × D)} {xs : List (V × Int × V)} {el : List DictEntry}, RepKv (rdL X.K H) kvs xs → Paired EntR xs el → (∀ p ∈ kvs, isF p.1 = true) →
    (∀ e ∈ el, ∃ k, (mixKind X.prog X.w).is k e.key = true ∧ e.hash = (mixKind X.prog X.w).hash k) ∧ Pairs (mixKind X.prog X.w) el (mk2 kvs el) ∧ (mk2 kvs el).map (·.1) = kvs.map fun p => fk p.1
  | _, _, _, .nil, .nil, _ => ⟨fun _ h => (nomatch h), .nil, rfl⟩
  | _, _, e :: el, .cons (k := k) (d := d) (kvs := kvs) (kv := kv) (v := v) (xs := xs) hk hd r, .cons he t, hF => by
    obtain ⟨h1, h2, h3⟩ := mk2_ok hw r t (fun p hp => hF p (List.mem_cons_of_mem _ hp))
    have kF : isF k = true := hF (k, d) List.mem_cons_self
    obtain ⟨e1, e2, e3⟩ := he
    have is := isF_rel (X := X) hk kF e1
    refine ⟨fun x hx => ?_, .cons is rfl h2, by show fk k :: (mk2 kvs el).map (·.1) = _; rw [h3]; rfl⟩
    rcases List.mem_cons.mp hx with hx | hx
    · rw [hx]
      exact ⟨fk k, is, by rw [isF_hash hw kF]; exact e2⟩
    · exact h1 x hx
theorem mk2_at {k : D} (kF : isF k = true) : ∀ {kvs : List (D × D)} {xs : List (V × Int × V)} {el : List DictEntry}, kvs.length = xs.length → Paired EntR xs el → (∀ p ∈ kvs, isF p.1 = true) →
    (∀ v, getX kvs xs k = some v → ∃ p, valueAt (mk2 kvs el) (fk k) = some p ∧ RelV v p) ∧ (getX kvs xs k = none → valueAt (mk2 kvs el) (fk k) = none)
  | [], _, _, _, _, _ => ⟨fun v h => (by cases h), fun _ => rfl⟩
  | (j, d) :: kvs, x :: xs, e :: el, hl, .cons he t, hF => by
    obtain ⟨h1, h2⟩ := mk2_at kF (kvs := kvs) (by simpa using hl) t (fun p hp => hF p (List.mem_cons_of_mem _ hp))
    have jF : isF j = true := hF (j, d) List.mem_cons_self
    have ea : valueAt (mk2 ((j, d) :: kvs) (e :: el)) (fk k) = if fk j = fk k then some e.val else valueAt (mk2 kvs el) (fk k) := valueAt_cons
    rw [ea]
    unfold getX
    by_cases h : nk j = nk k
    · rw [if_pos h, if_pos ((fk_nk jF kF).mpr h)]
      exact ⟨fun v hv => (by cases hv; exact ⟨_, rfl, he.2.2⟩), fun z => (nomatch z)⟩
    · rw [if_neg h, if_neg fun z => h ((fk_nk jF kF).mp z)]
      exact ⟨h1, h2⟩
  | _ :: _, [], _, hl, _, _ => by simp at hl
/-- an entry of the dict that DictOf tells -/
def EntK (P : Program) (w : World) (p : Key × Value) (e : DictEntry) : Prop := RelV (kV p.1) e.key ∧ e.hash = keyH w p.1 ∧ e.val = p.2
theorem entK_of {P : Program} {w : World} : ∀ {el : List DictEntry} {vs : List (Key × Value)}, Pairs (mixKind P w) el vs → (∀ e ∈ el, ∃ k, (mixKind P w).is k e.key = true ∧ e.hash = (mixKind P w).hash k) → Paired (EntK P w) vs el
  | _, _, .nil, _ => .nil
  | e :: el, p :: vs, .cons h1 h2 t, hk => by
    refine .cons ⟨?_, ?_, h2⟩ (entK_of t fun e he => hk e (List.mem_cons_of_mem _ he))
    · rcases keyIs_shape (k := p.1) (v := e.key) h1 with ⟨i, t, e1, e2⟩ | ⟨x, t, e1, e2⟩
      · rw [e1, e2]; exact ⟨t, rfl⟩
      · rw [e1, e2]; exact ⟨t, rfl⟩
    · obtain ⟨k, k1, k2⟩ := hk e List.mem_cons_self
      rw [k2, (mixKind P w).inj _ _ _ k1 h1]
      rfl
theorem dic_raw {a : Addr} {xs : List (V × Int × V)} (I : Inv X pins σ H s) (h : DicL X.K H a xs) : (a == sysModules) = false ∧ ∃ o es ep, s.heap.get? a = some o ∧ o.ExactDict ∧ o.data = .dict es ep ∧ Paired EntR xs es.toList := by
  rcases h with h | ⟨o, h⟩
  · have z : ObjOk X.prog X.w H s.heap a (DicO a xs) := rd_of I.hok h
    exact z.1
  · obtain ⟨h1, h2, h3, es, ep, h4, h5⟩ := h
    exact ⟨h2, o, es, ep, I.kIn a o h1, h3, h4, h5⟩
theorem dic_T (hw : X.w = Wd.w) {a : Addr} {xs : List (V × Int × V)} {kvs : List (D × D)} (I : Inv X pins σ H s) (h : DicL X.K H a xs) (hv : RepKv (rdL X.K H) kvs xs) (ok : DOk kvs) (hT : ∀ p ∈ kvs, isT p.1 = true) :
    (a == sysModules) = false ∧ ∃ el, Paired EntR xs el ∧ s.heap.DictOfH (nestedKind X.prog X.w) a (mk3 kvs el) ∧ (mk3 kvs el).map (·.1) = (kvs.map fun p => nk p.1) ∧ el = (mk3 kvs el).map (entryOfKey (nestedKind X.prog X.w)) := by
  obtain ⟨hs, o, es, ep, h1, h2, h3, h4⟩ := dic_raw I h
  obtain ⟨m1, m2, m3⟩ := mk3_ok hw I hv h4 hT ok.good
  exact ⟨hs, es.toList, h4, ⟨o, es, ep, h1, h2, h3, m1, m2, by rw [m3]; exact ok.nodup⟩, m3, m1⟩
theorem nodup_fk {kvs : List (D × D)} (hF : ∀ p ∈ kvs, isF p.1 = true) (h : (kvs.map fun p => nk p.1).Nodup) : (kvs.map fun p => fk p.1).Nodup := by
  induction kvs with
  | nil => exact List.nodup_nil
  | cons p kvs ih =>
    rw [List.map_cons, List.nodup_cons] at h ⊢
    refine ⟨fun z => ?_, ih (fun q hq => hF q (List.mem_cons_of_mem _ hq)) h.2⟩
    obtain ⟨q, hq, e⟩ := List.mem_map.mp z
    exact h.1 (by rw [← (fk_nk (hF q (List.mem_cons_of_mem _ hq)) (hF p List.mem_cons_self)).mp e]; exact List.mem_map_of_mem (f := fun p : D × D => nk p.1) hq)
theorem dic_F (hw : X.w = Wd.w) {a : Addr} {xs : List (V × Int × V)} {kvs : List (D × D)} (I : Inv X pins σ H s) (h : DicL X.K H a xs) (hv : RepKv (rdL X.K H) kvs xs) (ok : DOk kvs) (hF : ∀ p ∈ kvs, isF p.1 = true) :
    (a == sysModules) = false ∧ ∃ el, Paired EntR xs el ∧ s.heap.DictOf (mixKind X.prog X.w) a (mk2 kvs el) ∧ (mk2 kvs el).map (·.1) = kvs.map fun p => fk p.1 := by
  obtain ⟨hs, o, es, ep, h1, h2, h3, h4⟩ := dic_raw I h
  obtain ⟨m1, m2, m3⟩ := mk2_ok hw hv h4 hF
  exact ⟨hs, es.toList, h4, ⟨o, es, ep, h1, h2, h3, fun e he => m1 e (by simpa using he), m2, by rw [m3]; exact nodup_fk hF ok.nodup⟩, m3⟩

variable {A : Around} {E : Value → Shared → Prop} {a : Addr} {xs : List (V × Int × V)} {kvs : List (D × D)} {k : D} {y v : V} {u r : Value}
theorem dic_typeIs (I : Inv X pins σ H s) (h : DicL X.K H a xs) : s.TypeIs (.ref a) "dict" := by
  obtain ⟨_, o, es, ep, h1, h2, _⟩ := dic_raw I h
  exact ⟨o, h1, h2.1⟩
theorem keyT (I : Inv X pins σ H s) (hk : Rep (rdL X.K H) k y) (ry : RelV y u) (kG : keyG k = true) (kT : isT k = true) : ∃ b, y = .ref b ∧ u = .ref b ∧ (nestedKind X.prog X.w).is s.heap (nk k) b := by
  obtain ⟨ds, rfl⟩ := isT_cases kT
  have kG' := Bool.and_eq_true_iff.mp kG
  have nest := Rep.nested I hk ry kG'.1
  cases hk with
  | @tup b vs _ ha hb =>
    cases (show u = Value.ref b from ry)
    exact ⟨b, rfl, rfl, nest, of_decide_eq_true kG'.2⟩
theorem room9 (hu : A.units + 9 < cLine) : (nestedKind X.prog X.w).room A.in1 := by
  show A.units + 1 + 8 < cLine
  omega
theorem dic_getItem {Q : Value → Shared → Prop} (hu : A.units + 9 < cLine) (hw : X.w = Wd.w) (I : Inv X pins σ H s) (h : DicL X.K H a xs) (hv : RepKv (rdL X.K H) kvs xs) (ok : DOk kvs) (hk : Rep (rdL X.K H) k y) (ry : RelV y u) (ky : kyOk kvs k = true) (hg : getX kvs xs k = some v)
    (q : ∀ w' s', Inv X pins σ H s' → RelV v w' → Q w' s') : wpAny (model X.prog X.w) A (getItem (.ref a) u) Q E s := by
  rcases (kyKind ky) with ⟨kT, hT⟩ | ⟨kF, hF⟩
  · obtain ⟨b, rfl, rfl, is⟩ := keyT I hk ry (kyGood ky) kT
    obtain ⟨hs, el, pe, dh, _, _⟩ := dic_T hw I h hv ok hT
    obtain ⟨p, hp, rp⟩ := (mk3_at (k := k) hv.length pe).1 v hg
    exact wpAny_getItem_heap (room9 hu) is dh hp (q _ _ (I.tok _) rp)
  · obtain ⟨hs, el, pe, dh, _⟩ := dic_F hw I h hv ok hF
    obtain ⟨p, hp, rp⟩ := (mk2_at kF hv.length pe hF).1 v hg
    exact wpAny_getItem_of (isF_rel hk kF ry) dh.mapOf hp (q _ _ (I.tok _) rp)
theorem dic_in {Q : Value → Shared → Prop} (hu : A.units + 9 < cLine) (hw : X.w = Wd.w) (I : Inv X pins σ H s) (h : DicL X.K H a xs) (hv : RepKv (rdL X.K H) kvs xs) (ok : DOk kvs) (hk : Rep (rdL X.K H) k y) (ry : RelV y u) (ky : kyOk kvs k = true)
    (q : ∀ s', Inv X pins σ H s' → Q (.bool (getK kvs k).isSome) s') : wpAny (model X.prog X.w) A (compareOp .In u (.ref a)) Q E s := by
  rcases (kyKind ky) with ⟨kT, hT⟩ | ⟨kF, hF⟩
  · obtain ⟨b, rfl, rfl, is⟩ := keyT I hk ry (kyGood ky) kT
    obtain ⟨hs, el, pe, dh, _, _⟩ := dic_T hw I h hv ok hT
    refine wpAny_in_heap (room9 hu) is hs dh ?_
    have e : (atKey (mk3 kvs el) (nk k)).isSome = (getK kvs k).isSome := by
      rw [← hv.isSome]
      cases g : getX kvs xs k with
      | none => rw [(mk3_at (k := k) hv.length pe).2 g]; rfl
      | some v =>
        obtain ⟨p, hp, _⟩ := (mk3_at (k := k) hv.length pe).1 v g
        rw [hp]; rfl
    rw [e]
    exact q _ (I.tok _)
  · obtain ⟨hs, el, pe, dh, _⟩ := dic_F hw I h hv ok hF
    refine wpAny_in_of (isF_rel hk kF ry) hs dh.mapOf ?_
    have e : (valueAt (mk2 kvs el) (fk k)).isSome = (getK kvs k).isSome := by
      rw [← hv.isSome]
      cases g : getX kvs xs k with
      | none => rw [(mk2_at kF hv.length pe hF).2 g]; rfl
      | some v =>
        obtain ⟨p, hp, _⟩ := (mk2_at kF hv.length pe hF).1 v g
        rw [hp]; rfl
    rw [e]
    exact q _ (I.tok _)
theorem dic_notIn {Q : Value → Shared → Prop} (hu : A.units + 9 < cLine) (hw : X.w = Wd.w) (I : Inv X pins σ H s) (h : DicL X.K H a xs) (hv : RepKv (rdL X.K H) kvs xs) (ok : DOk kvs) (hk : Rep (rdL X.K H) k y) (ry : RelV y u) (ky : kyOk kvs k = true)
    (q : ∀ s', Inv X pins σ H s' → Q (.bool (!(getK kvs k).isSome)) s') : wpAny (model X.prog X.w) A (compareOp .NotIn u (.ref a)) Q E s := by
  rcases (kyKind ky) with ⟨kT, hT⟩ | ⟨kF, hF⟩
  · obtain ⟨b, rfl, rfl, is⟩ := keyT I hk ry (kyGood ky) kT
    obtain ⟨hs, el, pe, dh, _, _⟩ := dic_T hw I h hv ok hT
    refine wpAny_notIn_heap (room9 hu) is hs dh ?_
    have e : (atKey (mk3 kvs el) (nk k)).isSome = (getK kvs k).isSome := by
      rw [← hv.isSome]
      cases g : getX kvs xs k with
      | none => rw [(mk3_at (k := k) hv.length pe).2 g]; rfl
      | some v =>
        obtain ⟨p, hp, _⟩ := (mk3_at (k := k) hv.length pe).1 v g
        rw [hp]; rfl
    rw [e]
    exact q _ (I.tok _)
  · obtain ⟨hs, el, pe, dh, _⟩ := dic_F hw I h hv ok hF
    refine wpAny_notIn_of (isF_rel hk kF ry) hs dh.mapOf ?_
    have e : (valueAt (mk2 kvs el) (fk k)).isSome = (getK kvs k).isSome := by
      rw [← hv.isSome]
      cases g : getX kvs xs k with
      | none => rw [(mk2_at kF hv.length pe hF).2 g]; rfl
      | some v =>
        obtain ⟨p, hp, _⟩ := (mk2_at kF hv.length pe hF).1 v g
        rw [hp]; rfl
    rw [e]
    exact q _ (I.tok _)
theorem dicO_ok {h : Heap} {o : Obj} {es : Array DictEntry} {ep : Nat} (hs : (a == sysModules) = false) (h1 : h.get? a = some o) (h2 : o.ExactDict) (h3 : o.data = .dict es ep) (h4 : Paired EntR xs es.toList) : ObjOk X.prog X.w H h a (DicO a xs) := by
  refine ⟨⟨hs, o, es, ep, h1, h2, h3, h4⟩, ⟨o, h1⟩, fun g1 g2 ⟨z, o', es', ep', k1, k2, k3, k4⟩ k => ⟨z, o', es', ep', k _ k1, k2, k3, k4⟩⟩
/-- {} -/
theorem dic_empty (I : Inv X pins σ H s) : ObjOk X.prog X.w H (s.heap.push { cls := .type "dict", data := .dict #[] }) s.heap.objs.size (DicO s.heap.objs.size []) :=
  dicO_ok (beq_eq_false_iff_ne.mpr (Ne.symm (Nat.ne_of_lt I.big))) (Heap.get?_push_size _ rfl) ⟨rfl, rfl, rfl⟩ rfl .nil
end
end Dn
namespace Dn
open PySem PySem.Spec PyProof.Rows L2
variable [Wd]
section
variable {X : Cx} {pins : List (Addr × Obj)} {σ : L2.St} {H : Hp} {s : Shared}
/-- a tuple laid at the end of the heap -/
theorem tup_laid {t' : Nat} {vs : List V} {its : List Value} {h' : Heap} {p : Addr} (I : Inv X pins σ H s) (k : ∀ b u, s.heap.get? b = some u → h'.get? b = some u) (hp : s.heap.objs.size ≤ p) (r : Vals vs its) (hz : vs.length ≤ sizeLine)
    (e : h'.get? p = some (tupB its)) : Inv X pins σ (upd H p (tupO its vs)) { s with heap := h', toks := t' } :=
  I.laid (o := tupO its vs) k hp ⟨e, hz, its, r, ⟨_, e, rfl, _, rfl⟩⟩
end
omit [Wd] in
/-- a new pair -/
theorem pair_ok {P : Program} {w : World} {H : Hp} {h : Heap} {p : Addr} {x y : V} {u u2 : Value} (r : RelV x u) (r2 : RelV y u2) (e : h.get? p = some { cls := .type "tuple", data := .seq #[u, u2] }) : ObjOk P w H h p (tupO [u, u2] [x, y]) :=
  ⟨e, by show 2 ≤ sizeLine; decide, [u, u2], .cons r (.cons r2 .nil), ⟨_, e, rfl, _, rfl⟩⟩
/-- a turn that lays a new pair -/
def YPairN (f g : Nat → Option V) : Nat → Hp → V → Hp → Prop := fun i H v H' => ∃ T x y, v = .ref T ∧ H T = none ∧ (∃ its, H' = upd H T (tupO its [x, y])) ∧ f i = some x ∧ g i = some y
section
variable {X : Cx}
def newT (H : Hp) (vs : List V) (Q : VK) : Prop := ∀ p its, H p = none → Q (.ref p) (upd H p (tupO its vs))
/-- t + u -/
def rCatN (K : PySem.W.Frag) : R2 := fun x y H Q => ∃ a b vs us, x = .ref a ∧ y = .ref b ∧ SqT K H a vs ∧ SqT K H b us ∧ vs.length + us.length ≤ sizeLine ∧
  (vs = [] → Q (.ref b) H) ∧ (vs ≠ [] → us = [] → Q (.ref a) H) ∧ (vs ≠ [] → us ≠ [] → newT H (vs ++ us) Q)
theorem op_catN : OpR X (binaryOp .Add) (rCatN X.K) := by
  intro pins s σ H x y v u Q I rx ry q
  obtain ⟨a, b, vs, us, rfl, rfl, ha, hb, hz, q0, q1, q2⟩ := q
  cases rx
  cases ry
  obtain ⟨vi, rv, pv, _⟩ := I.tuple ha
  obtain ⟨ui, ru, pu, _⟩ := I.tuple hb
  by_cases e : vs = []
  · subst e
    cases rv
    exact cat_tup0 pv pu ⟨.ref b, H, I, rfl, q0 rfl⟩
  · refine HT.cat_tup pv pu (fun z => e (rv.nil_iff.mp z)) (fun z => ⟨.ref a, H, I, rfl, q1 e (ru.nil_iff.mp z)⟩) (fun z => ?_) (by rw [← rv.length, ← ru.length]; exact hz)
    have I2 := tup_laid (t' := s.toks) (h' := s.heap.push (tupB (vi ++ ui))) I (fun _ _ => Heap.get?_push_of_some _) (Nat.le_refl _) (rv.append ru) (by rw [List.length_append]; exact hz) (Heap.get?_push_size _ rfl)
    exact ⟨.ref _, _, I2, rfl, q2 e (fun w => z (ru.nil_iff.mpr w)) _ _ I.fresh⟩
/-- t[lo:hi] -/
def rSlN (K : PySem.W.Frag) : V → Option Int → Option Int → Hp → VK → Prop := fun x lo hi H Q => ∃ a vs, x = .ref a ∧ SqT K H a vs ∧
  (HT.sIx vs.length 0 lo = 0 ∧ HT.sIx vs.length vs.length hi = vs.length → Q (.ref a) H) ∧ (¬ (HT.sIx vs.length 0 lo = 0 ∧ HT.sIx vs.length vs.length hi = vs.length) → newT H (cutV vs lo hi) Q)
theorem sl_tupN : SlR X (rSlN X.K) := by
  intro pins s σ H x v vl vu lo hi sl Q I rx hs pl pu q
  obtain ⟨a, vs, rfl, hq, q1, q2⟩ := q
  cases rx
  obtain ⟨vi, rv, tp, zl⟩ := I.tuple hq
  have sz : vi.toArray.size = vs.length := by rw [List.size_toArray]; exact rv.length.symm
  refine ⟨"tuple", _, PyProof.Rows.slot_tuple_getitem.lookup, tp.typeIs, ?_⟩
  by_cases w : HT.sIx vs.length 0 lo = 0 ∧ HT.sIx vs.length vs.length hi = vs.length
  · exact getItem_tuple_whole tp hs pl pu (sz ▸ w) ⟨.ref a, H, I, rfl, q1 w⟩
  · refine HT.getItem_tuple_cut tp hs pl pu (sz ▸ w) ?_ (by rw [sz]; exact zl)
    rw [sz]
    have I2 := tup_laid (t' := s.toks) (h' := s.heap.push (tupB ((vi.drop (HT.sIx vs.length 0 lo)).take (HT.sIx vs.length vs.length hi - HT.sIx vs.length 0 lo)))) (vs := cutV vs lo hi) I (fun _ _ => Heap.get?_push_of_some _) (Nat.le_refl _)
      ((rv.drop _).take _) (Nat.le_trans (cutV_length vs lo hi) zl) (Heap.get?_push_size _ rfl)
    exact ⟨.ref _, _, I2, rfl, q2 w _ _ I.fresh⟩
/-- tuple(xs) -/
theorem call_tuple_N : CallR X (.type "tuple") (fun vs H Q => ∃ p ys, vs = [.ref p] ∧ ((SqL X.K H p ys ∧ newT H ys Q) ∨ (SqT X.K H p ys ∧ Q (.ref p) H))) := by
  intro pins s σ H vs us Q I r q
  obtain ⟨p, ys, rfl, q⟩ := q
  obtain ⟨u, rfl, ru⟩ := vals1 r
  cases ru
  rcases q with ⟨hq, q⟩ | ⟨hq, q⟩
  · obtain ⟨its, rv, hl, hz⟩ := I.list hq
    have ln := rv.length
    refine call_tuple_list hl.isList (fun h1 k1 => ?_) (by rw [List.size_toArray]; omega)
    have J : Inv X pins σ H { s with heap := h1 } := I.kept (t' := s.toks) k1
    have J2 := tup_laid (t' := s.toks) (h' := h1.push (tupB its)) J (fun _ _ => Heap.get?_push_of_some _) (Nat.le_refl _) rv hz (Heap.get?_push_size _ rfl)
    exact ⟨.ref _, _, J2, rfl, q _ _ J.fresh⟩
  · obtain ⟨its, _, tp, _⟩ := I.tuple hq
    exact call_tuple_same tp ⟨.ref p, H, I, rfl, q⟩
/-- (a, b, ..) -/
def tTupN (t : TA) : TE := fun σ H Q => t σ H fun vs H1 => vs.length ≤ sizeLine ∧ newT H1 vs Q
theorem pe_tupN {x1 : Nat} {es : List Expr} {t : TA} {pos : Pos} (h : PA X es t) : PE X (.Tuple es x1 pos) (tTupN t) := by
  refine ⟨fun pins s σ H Q I q => wpAny_Tuple_spliced (thn (h.run pos pins s σ H _ I q) fun us s1 ⟨vs, H1, I1, r, z, q1⟩ => ?_)⟩
  have J := tup_laid (t' := s1.toks) (h' := s1.heap.push (tupB us)) I1 (fun _ _ => Heap.get?_push_of_some _) (Nat.le_refl _) r z (Heap.get?_push_size _ rfl)
  exact ⟨r.length ▸ z, .ref _, _, J, rfl, q1 _ _ I1.fresh⟩
end
end Dn
namespace Dn
open PySem PySem.Spec PyProof.Rows L2
variable [Wd]

theorem OpR.impS {X : Cx} {f : Value → Value → Sem Value} {r r' : R2} (h : OpR X f r) (i : ∀ x y H Q, r' x y H Q → Sz X.K H → r x y H Q) : OpR X f r' :=
  fun pins s σ H x y v u Q I rx ry q => h pins s σ H x y v u Q I rx ry (i x y H Q q (Sz.of I))
theorem UnR.impS {X : Cx} {f : Value → Sem Value} {r r' : V → Hp → VK → Prop} (h : UnR X f r) (i : ∀ x H Q, r' x H Q → Sz X.K H → r x H Q) : UnR X f r' :=
  fun pins s σ H x v Q I rx q => h pins s σ H x v Q I rx (i x H Q q (Sz.of I))
theorem CallR.impS {X : Cx} {f : Value} {r r' : List V → Hp → VK → Prop} (h : CallR X f r) (i : ∀ x H Q, r' x H Q → Sz X.K H → r x H Q) : CallR X f r' :=
  fun pins s σ H xs us Q I rx q => h pins s σ H xs us Q I rx (i xs H Q q (Sz.of I))

section
variable {K : PySem.W.Frag} {H : Hp} {Q : VK} {d : D} {v : V} {r : D}
theorem Res.own {v : V} (h : Res K .own r H Q) (hv : Rep (rdF K H) r v) (nl : ∀ ds, r ≠ .list ds) (nd : ∀ kvs, r ≠ .dict kvs) : Q v H :=
  h v H noP (Ext.refl H) (fun _ => Own.ofF hv nl nd) (fun _ z => z.elim) fun _ z => z.elim
/-- a new list -/
theorem Res.lst {ds : List D} {vs : List V} {p : Addr} (h : Res K .own (.list ds) H Q) (hp : H p = none) (hv : RepAll (rdF K H) ds vs) : Q (.ref p) (upd H p (.lst vs)) :=
  h (.ref p) _ (fun a => a = p) (Ext.new hp) (fun _ => ⟨p, vs, rfl, rfl, upd_same, RepAll.mono (rdF_keep fun a u e _ => Ext.new hp a u e) hv⟩) (fun a e => e ▸ hp) fun a e => ⟨.lst vs, by rw [e]; exact upd_same, trivial⟩
/-- a new tuple -/
theorem Rep.tupNew {ds : List D} {vs : List V} {its : List Value} {p : Addr} (hp : H p = none) (hv : RepAll (rdF K H) ds vs) : Rep (rdF K (upd H p (tupO its vs))) (.tuple ds) (.ref p) :=
  .tup (.inl ⟨its, upd_same⟩) (RepAll.mono (rdF_keep fun a u e _ => Ext.new hp a u e) hv)
theorem Res.tup {ds : List D} {vs : List V} {its : List Value} {p : Addr} (h : Res K .own (.tuple ds) H Q) (hp : H p = none) (hv : RepAll (rdF K H) ds vs) : Q (.ref p) (upd H p (tupO its vs)) :=
  h (.ref p) _ noP (Ext.new hp) (fun _ => Rep.tupNew hp hv) (fun _ z => z.elim) fun _ z => z.elim
theorem Res.tupF {ds : List D} {vs : List V} {its : List Value} {p : Addr} (h : Res K .frz (.tuple ds) H Q) (hp : H p = none) (hv : RepAll (rdF K H) ds vs) : Q (.ref p) (upd H p (tupO its vs)) :=
  h (.ref p) _ noP (Ext.new hp) (fun _ => Rep.tupNew hp hv) (fun _ z => z.elim) fun _ z => z.elim
theorem immAll_F {ds : List D} {vs : List V} (h : RepAll (rdL K H) ds vs) (hi : immutAll ds = true) : RepAll (rdF K H) ds vs := RepAll.imm (r := rdL K H) (r' := rdF K H) (fun _ _ z => z) h hi
end
theorem flatten_len {α : Type} (xs : List α) (k : Nat) : (List.replicate k xs).flatten.length = k * xs.length := by
  induction k with
  | zero => simp
  | succ k ih => rw [List.replicate_succ, List.flatten_cons, List.length_append, ih, Nat.succ_mul]; omega

def intC : Int → Int → Bool := fun _ _ => true
def mulC (i j : Int) : Bool := decide (i.natAbs < 2 ^ 64) || decide (j.natAbs < 2 ^ 64)
/-- products: one factor small, or both of at most 9000 bits -/
def mulW (i j : Int) : Bool := mulC i j || (decide (i.natAbs < 2 ^ 9000) && decide (j.natAbs < 2 ^ 9000))
def divC (_ j : Int) : Bool := decide (j ≠ 0) && decide (j.natAbs < 2 ^ 9000)
def modC (_ j : Int) : Bool := decide (j ≠ 0)
def subD : D → D → Option D := dI intC fun i j => .int (i - j)
def fdivD : D → D → Option D := dI divC fun i j => .int (i.fdiv j)
def modD : D → D → Option D := dI modC fun i j => .int (i.fmod j)
section
variable {X : Cx}
theorem o_sub : OpR X (binaryOp .Sub) (rD2 X.K subD .frz) := OpR.impS (r := rI (fun _ _ => True) fun i j => .int (i - j)) (L2.opI fun _ _ _ _ _ _ _ _ q => sub_int q) fun x y H Q h sz => rI_of (fun _ _ _ => trivial) (fun _ _ _ => .int _) x y H Q h sz
theorem o_fdiv : OpR X (binaryOp .FloorDiv) (rD2 X.K fdivD .frz) :=
  OpR.impS (r := rI (fun i j => divC i j = true) fun i j => .int (i.fdiv j)) (L2.opI fun i j _ _ _ _ _ hc q => by
    simp only [divC, Bool.and_eq_true, decide_eq_true_eq] at hc
    exact floordiv_int hc.1 q (.inl (PyProof.noPylong_of_log2 (Nat.lt_of_lt_of_le (PySem.Flt.log2_lt_of (by decide) hc.2) (Nat.le_refl _)))))
  fun x y H Q h sz => rI_of (fun _ _ z => z) (fun _ _ _ => .int _) x y H Q h sz
theorem o_mod : OpR X (binaryOp .Mod) (rD2 X.K modD .frz) := OpR.impS op_modN fun x y H Q h sz => rI_of (fun i j z => by simpa [modC] using z) (fun _ _ _ => .int _) x y H Q h sz
end
def negD : D → Option D
  | .int i => some (.int (-i))
  | _ => none
theorem o_neg {X : Cx} : UnR X (unaryOp .USub) (rD1 X.K negD .frz) := UnR.impS un_neg fun x H Q h sz => by
  obtain ⟨d, r, hd, hr, k⟩ := h
  cases hd <;> simp [negD] at hr
  subst hr
  exact ⟨_, rfl, (k sz).val (.int _)⟩

def addD : D → D → Option D
  | .int i, .int j => some (.int (i + j))
  | .str x, .str y => if x.length + y.length ≤ sizeLine then some (.str (x ++ y)) else none
  | .list xs, .list ys => if (immutAll xs && immutAll ys) = true ∧ xs.length + ys.length ≤ sizeLine then some (.list (xs ++ ys)) else none
  | .tuple xs, .tuple ys => if (immutAll xs && immutAll ys) = true ∧ xs.length + ys.length ≤ sizeLine then some (.tuple (xs ++ ys)) else none
  | _, _ => none
def rCatL (K : PySem.W.Frag) : R2 := fun x y H Q => ∃ l b xs zs, x = .ref l ∧ y = .ref b ∧ SqL K H l xs ∧ SqL K H b zs ∧ xs.length + zs.length ≤ sizeLine ∧ ∀ p, H p = none → Q (.ref p) (upd H p (.lst (xs ++ zs)))
section
variable {X : Cx}
theorem op_catL : OpR X (binaryOp .Add) (rCatL X.K) := by
  intro pins s σ H x y v u Q I rx ry h
  obtain ⟨l, b, xs, zs, rfl, rfl, hl, hb, hz, q⟩ := h
  cases rx
  cases ry
  obtain ⟨its, r, ⟨⟨c1, d1, da1, sl1⟩, n1, ho, hc, hdn, hd⟩, _⟩ := I.list hl
  obtain ⟨its2, r2, ⟨⟨c2, d2, da2, sl2⟩, n2, ho2, hc2, hdn2, hd2⟩, _⟩ := I.list hb
  simp only at hc hd hc2 hd2
  subst hc hd hc2 hd2
  refine concat_meets ⟨_, ho, rfl⟩ ⟨_, ho2, rfl⟩ noFill_list_add seq_list_add PySem.F.slot_list_add PySem.F.entry_list_add (PySem.F.args_list_add_2 _ _)
    (list_addW l b its.toArray its2.toArray n1 n2 d1 d2 sl1 sl2 (by rw [List.size_toArray, List.size_toArray, ← r.length, ← r2.length]; exact hz)) ⟨ho, ho2, ?_⟩
  have ea : its.toArray ++ its2.toArray = (its ++ its2).toArray := by simp
  rw [ea]
  exact ⟨.ref _, _, I.lnew (t' := s.toks) (r.append r2) (by rw [List.length_append]; omega), rfl, q _ I.fresh⟩
theorem o_add : OpR X (binaryOp .Add) (rD2 X.K addD .own) := by
  refine OpR.impS (OpR.or (OpR.or op_add op_add_str) (OpR.or op_catL op_catN)) fun x y H Q h sz => ?_
  obtain ⟨d, e, r, hd, he, hr, k⟩ := h
  have k := k sz
  cases hd with
  | int i =>
    cases he <;> simp [addD] at hr
    subst hr
    exact .inl (.inl ⟨_, _, rfl, rfl, k.own (.int _) (fun _ z => nomatch z) fun _ z => nomatch z⟩)
  | str a =>
    cases he <;> simp [addD] at hr
    obtain ⟨hz, rfl⟩ := hr
    exact .inl (.inr ⟨_, _, rfl, rfl, hz, k.own (.str _) (fun _ z => nomatch z) fun _ z => nomatch z⟩)
  | lst ha hb =>
    cases he <;> simp [addD] at hr
    rename_i ds' hc' hd'
    obtain ⟨⟨⟨i1, i2⟩, hz⟩, rfl⟩ := hr
    rename_i a1 vs1 ds1 a2 vs2 ds2
    refine .inr (.inl ⟨_, _, _, _, rfl, rfl, ha, hc', by rw [← hb.length, ← hd'.length]; exact hz, fun p hp => k.lst hp (RepAll.append (immAll_F hb i1) (immAll_F hd' i2))⟩)
  | tup ha hb =>
    cases he <;> simp [addD] at hr
    rename_i hc' hd'
    obtain ⟨⟨⟨i1, i2⟩, hz⟩, rfl⟩ := hr
    have f1 := immAll_F hb i1
    have f2 := immAll_F hd' i2
    refine .inr (.inr ⟨_, _, _, _, rfl, rfl, ha.sq, hc'.sq, by rw [← hb.length, ← hd'.length]; exact hz, fun e1 => ?_, fun _ e2 => ?_, fun _ _ p its hp => k.tup hp (RepAll.append f1 f2)⟩)
    · have hl := f1.length
      rw [e1] at hl
      rw [List.eq_nil_of_length_eq_zero hl, List.nil_append] at k
      exact k.own (.tup hc' f2) (fun _ z => nomatch z) fun _ z => nomatch z
    · have hl := f2.length
      rw [e2] at hl
      rw [List.eq_nil_of_length_eq_zero hl, List.append_nil] at k
      exact k.own (.tup ha f1) (fun _ z => nomatch z) fun _ z => nomatch z
  | non => cases he <;> simp [addD] at hr
  | bl b => cases he <;> simp [addD] at hr
  | dic _ _ _ => cases he <;> simp [addD] at hr
end

def eqD : D → D → Option D := fun d e => if SeqAt.shaped d = true ∧ SeqAt.shaped e = true then some (.bool (PyData.eqv d e)) else none
def neD : D → D → Option D := fun d e => if SeqAt.shaped d = true ∧ SeqAt.shaped e = true then some (.bool (!PyData.eqv d e)) else none
theorem shaped_lay {d : D} (h : SeqAt.shaped d = true) : d.canLay0 = true := (Bool.and_eq_true_iff.mp h).1
section
variable {X : Cx}
theorem o_eq (hu : X.A.units + 64 < cLine) : OpR X (compareOp .Eq) (rD2 X.K eqD .frz) := OpR.impS (op_eqD hu) fun x y H Q h sz => by
  obtain ⟨d, e, r, hd, he, hr, k⟩ := h
  unfold eqD at hr
  split at hr
  · rename_i hc
    cases hr
    exact ⟨d, e, hd.dp (shaped_lay hc.1), he.dp (shaped_lay hc.2), hc.1, hc.2, (k sz).val (.bl _)⟩
  · cases hr
theorem o_ne (hu : X.A.units + 64 < cLine) : OpR X (compareOp .NotEq) (rD2 X.K neD .frz) := OpR.impS (op_neD hu) fun x y H Q h sz => by
  obtain ⟨d, e, r, hd, he, hr, k⟩ := h
  unfold neD at hr
  split at hr
  · rename_i hc
    cases hr
    exact ⟨d, e, hd.dp (shaped_lay hc.1), he.dp (shaped_lay hc.2), hc.1, hc.2, (k sz).val (.bl _)⟩
  · cases hr
end
def ordD (p : Int → Int → Bool) (q : List Nat → List Nat → Bool) : D → D → Option D
  | .int i, .int j => some (.bool (p i j))
  | .str x, .str y => some (.bool (q x.cps.toList y.cps.toList))
  | _, _ => none
/-- x < y, of sequences too -/
def ltD : D → D → Option D := fun d e => match ordD (fun i j => decide (i < j)) (fun x y => decide (x < y)) d e with
  | some r => some r
  | none => if (SeqAt.shaped d && SeqAt.shaped e && PySem.W.alike d e) = true ∧ d.depth ≠ 0 then some (.bool (PySem.W.dataLt d e)) else none
def leD : D → D → Option D := ordD (fun i j => decide (i ≤ j)) fun x y => !decide (y < x)
def gtD : D → D → Option D := ordD (fun i j => decide (j < i)) fun x y => decide (y < x)
def geD : D → D → Option D := ordD (fun i j => decide (j ≤ i)) fun x y => !decide (x < y)
section
variable {X : Cx}
theorem ord_of {K : PySem.W.Frag} {p : Int → Int → Bool} {q : List Nat → List Nat → Bool} {d e r : D} {x y : V} {H : Hp} {Q : VK} (hd : Rep (rdL K H) d x) (he : Rep (rdL K H) e y) (hr : ordD p q d e = some r) (k : Res K .frz r H Q) :
    (∃ i j, x = .int i ∧ y = .int j ∧ Q (.bl (p i j)) H) ∨ (∃ i j, x = .str i ∧ y = .str j ∧ Q (.bl (q i.cps.toList j.cps.toList)) H) := by
  cases hd <;> try (simp [ordD] at hr; done)
  · cases he <;> simp [ordD] at hr
    subst hr
    exact .inl ⟨_, _, rfl, rfl, k.val (.bl _)⟩
  · cases he <;> simp [ordD] at hr
    subst hr
    exact .inr ⟨_, _, rfl, rfl, k.val (.bl _)⟩
theorem o_le : OpR X (compareOp .LtE) (rD2 X.K leD .frz) := OpR.impS (OpR.or op_le op_le_str) fun x y H Q ⟨d, e, r, hd, he, hr, k⟩ sz => ord_of hd he hr (k sz)
theorem o_gt : OpR X (compareOp .Gt) (rD2 X.K gtD .frz) := OpR.impS (OpR.or op_gt op_gt_str) fun x y H Q ⟨d, e, r, hd, he, hr, k⟩ sz => ord_of hd he hr (k sz)
theorem o_ge : OpR X (compareOp .GtE) (rD2 X.K geD .frz) := OpR.impS (OpR.or op_ge op_ge_str) fun x y H Q ⟨d, e, r, hd, he, hr, k⟩ sz => ord_of hd he hr (k sz)
def rLtA (K : PySem.W.Frag) : R2 := fun x y H Q => ∃ d e, Dp K H x d ∧ Dp K H y e ∧ SeqAt.shaped d = true ∧ PySem.W.alike d e = true ∧ d ≠ .none ∧ Q (.bl (PySem.W.dataLt d e)) H
theorem op_ltA (hu : X.A.units + 64 < cLine) : OpR X (compareOp .Lt) (rLtA X.K) := by
  intro pins s σ H x y v u Q I rx ry h
  obtain ⟨d, e, hd, he, sd, al, nn, q⟩ := h
  obtain ⟨as, r1⟩ := Dp.reads I d x v hd rx
  obtain ⟨bs, r2⟩ := Dp.reads I e y u he ry
  have hdep : d.depth ≤ 64 := of_decide_eq_true (Bool.and_eq_true_iff.mp sd).2
  have hmin : min d.depth e.depth ≤ 64 := Nat.le_trans (Nat.min_le_left _ _) hdep
  exact PySem.W.rcLt_alike d e X.A s v u as bs r1 r2 al nn (by omega) X.prog X.w X.xe _ ⟨.bl _, H, I, rfl, q⟩
theorem o_lt (hu : X.A.units + 64 < cLine) : OpR X (compareOp .Lt) (rD2 X.K ltD .frz) := OpR.impS (OpR.or (OpR.or op_lt op_lt_str) (op_ltA hu)) fun x y H Q ⟨d, e, r, hd, he, hr, k⟩ sz => by
  unfold ltD at hr
  split at hr
  · rename_i r' h'
    cases hr
    exact .inl (ord_of hd he h' (k sz))
  · split at hr
    · rename_i hc
      cases hr
      simp only [Bool.and_eq_true] at hc
      exact .inr ⟨d, e, hd.dp (shaped_lay hc.1.1.1), he.dp (shaped_lay hc.1.1.2), hc.1.1.1, hc.1.2, fun z => hc.2 (by rw [z]; simp [PyData.depth]), (k sz).val (.bl _)⟩
    · cases hr
/-- is, with None, True, False on the right -/
def isD : D → D → Option D
  | d, .none => some (.bool (match d with | .none => true | _ => false))
  | d, .bool b => some (.bool (match d with | .bool c => c == b | _ => false))
  | _, _ => none
def isNotD : D → D → Option D
  | d, .none => some (.bool (match d with | .none => false | _ => true))
  | d, .bool b => some (.bool (match d with | .bool c => !(c == b) | _ => true))
  | _, _ => none
theorem plainIs_of {x : V} {v : Value} {b : Bool} (r : L2.RelV x v) : plainIs v (.bool b) = true := by
  cases x with
  | non => cases (show v = Value.none from r); rfl
  | bl c => cases (show v = Value.bool c from r); rfl
  | int i => obtain ⟨t, e⟩ := (show ∃ t, v = Value.int i t from r); subst e; rfl
  | str i => obtain ⟨t, e⟩ := (show ∃ t, v = Value.str i t from r); subst e; rfl
  | byt i => obtain ⟨t, e⟩ := (show ∃ t, v = Value.bytes i t from r); subst e; rfl
  | flt i => obtain ⟨t, e⟩ := (show ∃ t, v = Value.float i t from r); subst e; rfl
  | ref a => cases (show v = Value.ref a from r); rfl
  | ty a => cases (show v = Value.type a from r); rfl
def rIsV : R2 := fun x y H Q => ∃ b, y = .bl b ∧ Q (.bl (decide (x = .bl b))) H
def rIsNV : R2 := fun x y H Q => ∃ b, y = .bl b ∧ Q (.bl (!decide (x = .bl b))) H
theorem op_isV : OpR X (compareOp .Is) rIsV := by
  intro pins s σ H x y v u Q I rx ry h
  obtain ⟨b, rfl, q⟩ := h
  cases (show u = Value.bool b from ry)
  by_cases e : x = .bl b
  · subst e
    cases (show v = Value.bool b from rx)
    exact wpAny_is_self rfl ⟨.bl true, H, I, rfl, by simpa using q⟩
  · have ne : v ≠ Value.bool b := fun z => e (rx.inj (z ▸ (show L2.RelV (.bl b) (Value.bool b) from rfl)))
    rw [decide_eq_false e] at q
    exact wpAny_is_other (plainIs_of rx) ne ⟨.bl false, H, I, rfl, q⟩
theorem op_isNV : OpR X (compareOp .IsNot) rIsNV := by
  intro pins s σ H x y v u Q I rx ry h
  obtain ⟨b, rfl, q⟩ := h
  cases (show u = Value.bool b from ry)
  by_cases e : x = .bl b
  · subst e
    cases (show v = Value.bool b from rx)
    exact wpAny_isNot_self rfl ⟨.bl false, H, I, rfl, by simpa using q⟩
  · have ne : v ≠ Value.bool b := fun z => e (rx.inj (z ▸ (show L2.RelV (.bl b) (Value.bool b) from rfl)))
    rw [decide_eq_false e] at q
    exact wpAny_isNot_other (plainIs_of rx) ne ⟨.bl true, H, I, rfl, q⟩
theorem o_is : OpR X (compareOp .Is) (rD2 X.K isD .frz) := OpR.impS (OpR.or op_isN op_isV) fun x y H Q ⟨d, e, r, hd, he, hr, k⟩ sz => by
  have k := k sz
  cases he with
  | non =>
    simp only [isD, Option.some.injEq] at hr
    subst hr
    refine .inl ⟨rfl, ?_⟩
    have k := k.val (.bl _)
    cases hd <;> exact k
  | bl b =>
    simp only [isD, Option.some.injEq] at hr
    subst hr
    refine .inr ⟨b, rfl, ?_⟩
    have k := k.val (.bl _)
    cases hd with
    | bl c => rw [show decide (V.bl c = V.bl b) = (c == b) by cases c <;> cases b <;> rfl]; exact k
    | _ => exact k
  | _ => simp [isD] at hr
theorem o_isNot : OpR X (compareOp .IsNot) (rD2 X.K isNotD .frz) := OpR.impS (OpR.or op_notN op_isNV) fun x y H Q ⟨d, e, r, hd, he, hr, k⟩ sz => by
  have k := k sz
  cases he with
  | non =>
    simp only [isNotD, Option.some.injEq] at hr
    subst hr
    refine .inl ⟨rfl, ?_⟩
    have k := k.val (.bl _)
    cases hd <;> exact k
  | bl b =>
    simp only [isNotD, Option.some.injEq] at hr
    subst hr
    refine .inr ⟨b, rfl, ?_⟩
    have k := k.val (.bl _)
    cases hd with
    | bl c => rw [show decide (V.bl c = V.bl b) = (c == b) by cases c <;> cases b <;> rfl]; exact k
    | _ => exact k
  | _ => simp [isNotD] at hr
/-- in, of a sequence or a text -/
def inD : D → D → Option D
  | d, .list ds => if SeqAt.shaped d = true ∧ SeqAt.shaped (.list ds) = true then some (.bool (ds.any fun z => PyData.eqv z d)) else none
  | d, .tuple ds => if SeqAt.shaped d = true ∧ SeqAt.shaped (.list ds) = true then some (.bool (ds.any fun z => PyData.eqv z d)) else none
  | .str x, .str y => some (.bool (!(Builtin.Str.occurrences y x 0 y.length 1).isEmpty))
  | k, .dict kvs => if kyOk kvs k = true then some (.bool (getK kvs k).isSome) else none
  | _, _ => none
def notInD : D → D → Option D
  | d, .list ds => if SeqAt.shaped d = true ∧ SeqAt.shaped (.list ds) = true then some (.bool (!ds.any fun z => PyData.eqv z d)) else none
  | d, .tuple ds => if SeqAt.shaped d = true ∧ SeqAt.shaped (.list ds) = true then some (.bool (!ds.any fun z => PyData.eqv z d)) else none
  | .str x, .str y => some (.bool (!(!(Builtin.Str.occurrences y x 0 y.length 1).isEmpty)))
  | k, .dict kvs => if kyOk kvs k = true then some (.bool (!(getK kvs k).isSome)) else none
  | _, _ => none
def rInDic (K : PySem.W.Frag) : R2 := fun x y H Q => ∃ a xs kvs k, y = .ref a ∧ DicL K H a xs ∧ RepKv (rdL K H) kvs xs ∧ DOk kvs ∧ Rep (rdL K H) k x ∧ kyOk kvs k = true ∧ Q (.bl (getK kvs k).isSome) H
def rNotInDic (K : PySem.W.Frag) : R2 := fun x y H Q => ∃ a xs kvs k, y = .ref a ∧ DicL K H a xs ∧ RepKv (rdL K H) kvs xs ∧ DOk kvs ∧ Rep (rdL K H) k x ∧ kyOk kvs k = true ∧ Q (.bl (!(getK kvs k).isSome)) H
theorem op_inDic (hu : X.A.units + 65 < cLine) (hw : X.w = Wd.w) : OpR X (compareOp .In) (rInDic X.K) := by
  intro pins s σ H x y v u Q I rx ry h
  obtain ⟨a, xs, kvs, k, rfl, hr, hv, ok, hk, ky, q⟩ := h
  cases (show u = Value.ref a from ry)
  exact dic_in (by omega) hw I hr hv ok hk rx ky fun s' I' => ⟨.bl _, H, I', rfl, q⟩
theorem op_notInDic (hu : X.A.units + 65 < cLine) (hw : X.w = Wd.w) : OpR X (compareOp .NotIn) (rNotInDic X.K) := by
  intro pins s σ H x y v u Q I rx ry h
  obtain ⟨a, xs, kvs, k, rfl, hr, hv, ok, hk, ky, q⟩ := h
  cases (show u = Value.ref a from ry)
  exact dic_notIn (by omega) hw I hr hv ok hk rx ky fun s' I' => ⟨.bl _, H, I', rfl, q⟩
def rInT (K : PySem.W.Frag) : R2 := fun x y H Q => ∃ d ds, Dp K H x d ∧ Dp K H y (.tuple ds) ∧ SeqAt.shaped d = true ∧ SeqAt.shaped (.list ds) = true ∧ Q (.bl (ds.any fun z => PyData.eqv z d)) H
def rNotInT (K : PySem.W.Frag) : R2 := fun x y H Q => ∃ d ds, Dp K H x d ∧ Dp K H y (.tuple ds) ∧ SeqAt.shaped d = true ∧ SeqAt.shaped (.list ds) = true ∧ Q (.bl (!ds.any fun z => PyData.eqv z d)) H
theorem op_inT (hu : X.A.units + 65 < cLine) : OpR X (compareOp .In) (rInT X.K) := by
  intro pins s σ H x y v u Q I rx ry h
  obtain ⟨d, ds, hd, he, sd, se, q⟩ := h
  obtain ⟨as, r1⟩ := Dp.reads I d x v hd rx
  obtain ⟨bs, r2⟩ := Dp.reads I (.tuple ds) y u he ry
  exact SeqAt.in_tuple_reads r2 r1 (SeqAt.canLay_of_shaped se) (SeqAt.canLay_of_shaped sd) (room_in_shaped sd hu) ⟨.bl _, H, I, rfl, q⟩
theorem op_notInT (hu : X.A.units + 65 < cLine) : OpR X (compareOp .NotIn) (rNotInT X.K) := by
  intro pins s σ H x y v u Q I rx ry h
  obtain ⟨d, ds, hd, he, sd, se, q⟩ := h
  obtain ⟨as, r1⟩ := Dp.reads I d x v hd rx
  obtain ⟨bs, r2⟩ := Dp.reads I (.tuple ds) y u he ry
  exact SeqAt.notIn_tuple_reads r2 r1 (SeqAt.canLay_of_shaped se) (SeqAt.canLay_of_shaped sd) (room_in_shaped sd hu) ⟨.bl _, H, I, rfl, q⟩
theorem o_in (hu : X.A.units + 65 < cLine) (hw : X.w = Wd.w) : OpR X (compareOp .In) (rD2 X.K inD .frz) := OpR.impS (OpR.or (OpR.or (OpR.or (op_inD hu) (op_inT hu)) op_in_str) (op_inDic hu hw)) fun x y H Q ⟨d, e, r, hd, he, hr, k⟩ sz => by
  have k := k sz
  cases he with
  | lst ha hb =>
    simp only [inD] at hr
    split at hr
    · rename_i hc
      cases hr
      exact .inl (.inl (.inl ⟨d, _, hd.dp (shaped_lay hc.1), (Rep.lst ha hb).dp (shaped_lay hc.2), hc.1, hc.2, k.val (.bl _)⟩))
    · cases hr
  | tup ha hb =>
    simp only [inD] at hr
    split at hr
    · rename_i hc
      cases hr
      exact .inl (.inl (.inr ⟨d, _, hd.dp (shaped_lay hc.1), (Rep.tup ha hb).dp (by simpa [PyData.canLay0] using shaped_lay hc.2), hc.1, hc.2, k.val (.bl _)⟩))
    · cases hr
  | str y =>
    cases hd <;> simp [inD] at hr
    subst hr
    exact .inl (.inr ⟨_, _, rfl, rfl, by simpa using k.val (.bl _)⟩)
  | dic ha hb ok =>
    cases hd <;> simp only [inD] at hr <;> (split at hr <;> first | (cases hr; done) | (rename_i ky; cases hr; refine .inr ⟨_, _, _, _, rfl, ha, hb, ok, ?_, ky, k.val (.bl _)⟩; first | exact .non | exact .bl _ | exact .int _ | exact .str _ | exact .lst (by assumption) (by assumption) | exact .tup (by assumption) (by assumption) | exact .dic (by assumption) (by assumption) (by assumption)))
  | _ => cases hd <;> simp [inD] at hr
theorem o_notIn (hu : X.A.units + 65 < cLine) (hw : X.w = Wd.w) : OpR X (compareOp .NotIn) (rD2 X.K notInD .frz) := OpR.impS (OpR.or (OpR.or (OpR.or (op_notInD hu) (op_notInT hu)) op_notin_str) (op_notInDic hu hw)) fun x y H Q ⟨d, e, r, hd, he, hr, k⟩ sz => by
  have k := k sz
  cases he with
  | lst ha hb =>
    simp only [notInD] at hr
    split at hr
    · rename_i hc
      cases hr
      exact .inl (.inl (.inl ⟨d, _, hd.dp (shaped_lay hc.1), (Rep.lst ha hb).dp (shaped_lay hc.2), hc.1, hc.2, k.val (.bl _)⟩))
    · cases hr
  | tup ha hb =>
    simp only [notInD] at hr
    split at hr
    · rename_i hc
      cases hr
      exact .inl (.inl (.inr ⟨d, _, hd.dp (shaped_lay hc.1), (Rep.tup ha hb).dp (by simpa [PyData.canLay0] using shaped_lay hc.2), hc.1, hc.2, k.val (.bl _)⟩))
    · cases hr
  | str y =>
    cases hd <;> simp [notInD] at hr
    subst hr
    exact .inl (.inr ⟨_, _, rfl, rfl, by simpa using k.val (.bl _)⟩)
  | dic ha hb ok =>
    cases hd <;> simp only [notInD] at hr <;> (split at hr <;> first | (cases hr; done) | (rename_i ky; cases hr; refine .inr ⟨_, _, _, _, rfl, ha, hb, ok, ?_, ky, k.val (.bl _)⟩; first | exact .non | exact .bl _ | exact .int _ | exact .str _ | exact .lst (by assumption) (by assumption) | exact .tup (by assumption) (by assumption) | exact .dic (by assumption) (by assumption) (by assumption)))
  | _ => cases hd <;> simp [notInD] at hr
end
end Dn
namespace Dn
open PySem PySem.Spec PyProof.Rows L2
variable [Wd]

theorem int_rmul_seq (a : Int) (t : Tok) (l : Addr) (T : String) (items : Array Value) (n : Nat) (dd : Option Addr) (sl : Array (Option Value)) (hT : T = "list" ∨ T = "tuple") :
    Meets (Builtin.«int.__rmul__» ⟨[.int a t, .ref l], []⟩) (fun _ R s => s.heap.get? l = some { cls := .type T, dict := dd, data := .seq items n, slots := sl } ∧ R (.ok (.ret Value.notImplemented)) s) :=
  .of_wp fun prog w A R s h => by
    obtain ⟨hp, g, d, tk, os⟩ := s; obtain ⟨hl, h⟩ := h
    rcases hT with rfl | rfl
    · wp_walk using wpAny_loadPart' hl; exact ⟨_, rfl, h⟩
    · wp_walk using wpAny_loadPart' hl; exact ⟨_, rfl, h⟩
theorem list_mulW (l : Addr) (items : Array Value) (n : Nat) (dd : Option Addr) (sl : Array (Option Value)) (x : Int) (u : Tok) (hc0 : ¬(!Builtin.List.listFitsIndex x) = true) (hc1 : ¬items.size * x.toNat > (2 ^ 63 - 1) / 8) (hc2 : ¬Builtin.List.listTooLong (items.size * x.toNat) = true)
    (hsz : (List.foldl (fun x1 x2 => x1 ++ x2) #[] (List.replicate (if items.isEmpty = true then 0 else x.toNat) items)).size ≤ sizeLine) :
    Meets (Builtin.«list.__mul__» ⟨[.ref l, .int x u], []⟩) (fun _ R s => s.heap.get? l = some { cls := .type "list", dict := dd, data := .seq items n, slots := sl } ∧ R (.ok (.ret (Value.ref s.heap.objs.size))) { s with heap := s.heap.push { cls := Value.type "list", data := Data.seq (List.foldl (fun x1 x2 => x1 ++ x2) #[] (List.replicate (if items.isEmpty = true then 0 else x.toNat) items)) }, toks := s.toks }) :=
  .of_wp fun prog w A R s h => by
    obtain ⟨hp, g, d, tk, os⟩ := s; obtain ⟨hl, h⟩ := h
    have f1 := AutoSeq1.idx_int
    wp_walk using wpAny_loadPart' hl
    repeat (first
      | (refine wpAny_ite_false (decide_eq_false hc0) ?_; wp_walk using wpAny_loadPart' hl)
      | (refine wpAny_ite_false (decide_eq_false hc1) ?_; wp_walk using wpAny_loadPart' hl)
      | (refine wpAny_ite_false (decide_eq_false hc2) ?_; wp_walk using wpAny_loadPart' hl)
      | (refine wpAny_ite_false (decide_eq_false (Nat.not_lt.mpr hsz)) ?_; wp_walk using wpAny_loadPart' hl))
    exact ⟨_, rfl, h⟩
def rRepL (K : PySem.W.Frag) : R2 := fun x y H Q => ∃ l k xs, x = .ref l ∧ y = .int k ∧ SqL K H l xs ∧ -(2 ^ 63) ≤ k ∧ k < 2 ^ 63 ∧ xs.length * k.toNat ≤ sizeLine ∧
  ∀ p, H p = none → Q (.ref p) (upd H p (.lst (List.replicate k.toNat xs).flatten))
section
variable {X : Cx}
theorem op_repL : OpR X (binaryOp .Mult) (rRepL X.K) := by
  intro pins s σ H x y v u Q I rx ry h
  obtain ⟨l, k, xs, rfl, rfl, hT, h1, h2, hz, q⟩ := h
  cases rx
  obtain ⟨t, rfl⟩ := ry
  obtain ⟨its, r, ⟨⟨cls, dd, data, sl⟩, n, ho, hc, hdn, hd⟩, hs⟩ := I.list hT
  simp only at hc hd
  subst hc hd
  have hl := r.length
  have hlen : its.toArray.size * k.toNat ≤ sizeLine := by rw [List.size_toArray, ← hl]; exact hz
  have hsl : (sizeLine : Nat) ≤ (2 ^ 63 - 1) / 8 := by decide
  have hnew : List.foldl (fun x1 x2 => x1 ++ x2) #[] (List.replicate (if its.toArray.isEmpty = true then 0 else k.toNat) its.toArray) = (List.replicate k.toNat its).flatten.toArray := by
    rw [size_rep]
    cases its with
    | nil => simp
    | cons a r' => rw [if_neg (by simp)]
  refine wpAny_binaryOp_repeat_ref (T := "list") (U := "int") (by decide) ⟨_, ho, rfl⟩ (fun s' => typeIs_int s' k t) noFill_list_mul F.fills_int_mul F.slot_int_rmul repeat_list F.slot_int_index.lookup
    (call_meets F.slot_int_rmul (typeIs_int s k t) F.entry_int_rmul (F.args_int_rmul_2 _ _) (int_rmul_seq k t l "list" its.toArray n dd sl (.inl rfl))
      ⟨ho, rfl, ⟨_, ho, rfl⟩, call_meets F.slot_list_mul ⟨_, ho, rfl⟩ F.entry_list_mul (F.args_list_mul_2 _ _) (list_mulW l its.toArray n dd sl k t (by rw [fitsIndex_both h1 h2]; exact Bool.false_ne_true) (by omega) (by rw [notLongL hlen]; exact Bool.false_ne_true) (by
        rw [hnew, List.size_toArray, flatten_len, Nat.mul_comm]
        rw [List.size_toArray] at hlen
        exact hlen)) ⟨ho, ?_⟩⟩)
  rw [hnew]
  refine ⟨.ref _, _, I.lnew (t' := s.toks) (r.rep k.toNat) ?_, rfl, q _ I.fresh⟩
  rw [flatten_len, Nat.mul_comm]
  exact hz
end
theorem tuple_mulS (l : Addr) (items : Array Value) (n : Nat) (dd : Option Addr) (sl : Array (Option Value)) (x : Int) (u : Tok) (c0 : (decide (x < -(2 ^ 63)) || decide (x ≥ 2 ^ 63)) = false) (c1 : (items.isEmpty || x == 1) = true) :
    Meets (Builtin.«tuple.__mul__» ⟨[.ref l, .int x u], []⟩) (fun _ R s => s.heap.get? l = some { cls := .type "tuple", dict := dd, data := .seq items n, slots := sl } ∧ R (.ok (.ret (Value.ref l))) s) :=
  .of_wp fun prog w A R s h => by
    obtain ⟨hp, g, d, tk, os⟩ := s
    obtain ⟨hl, h⟩ := h
    have f1 := AutoSeq1.idx_int
    wp_walk using wpAny_loadPart' hl
    repeat (first
      | (refine wpAny_ite_false (decide_eq_false (by rw [c0]; exact Bool.false_ne_true)) ?_; wp_walk using wpAny_loadPart' hl)
      | (refine wpAny_ite_true (decide_eq_true c1) ?_; wp_walk using wpAny_loadPart' hl))
    exact ⟨_, rfl, h⟩
theorem tuple_mul0 (l : Addr) (items : Array Value) (n : Nat) (dd : Option Addr) (sl : Array (Option Value)) (x : Int) (u : Tok) (c0 : (decide (x < -(2 ^ 63)) || decide (x ≥ 2 ^ 63)) = false) (c1 : (items.isEmpty || x == 1) = false) (c2 : (decide (x ≤ 0) || items.isEmpty) = true) :
    Meets (Builtin.«tuple.__mul__» ⟨[.ref l, .int x u], []⟩) (fun _ R s => s.heap.get? l = some { cls := .type "tuple", dict := dd, data := .seq items n, slots := sl } ∧
      R (.ok (.ret (Value.ref s.heap.objs.size))) { s with heap := s.heap.push { cls := Value.type "tuple", data := Data.seq #[] }, toks := s.toks }) :=
  .of_wp fun prog w A R s h => by
    obtain ⟨hp, g, d, tk, os⟩ := s
    obtain ⟨hl, h⟩ := h
    have f1 := AutoSeq1.idx_int
    wp_walk using wpAny_loadPart' hl
    repeat (first
      | (refine wpAny_ite_false (decide_eq_false (by rw [c0]; exact Bool.false_ne_true)) ?_; wp_walk using wpAny_loadPart' hl)
      | (refine wpAny_ite_false (decide_eq_false (by rw [c1]; exact Bool.false_ne_true)) ?_; wp_walk using wpAny_loadPart' hl)
      | (refine wpAny_ite_true (decide_eq_true c2) ?_; wp_walk using wpAny_loadPart' hl))
    exact ⟨_, rfl, h⟩
def rRepTA (K : PySem.W.Frag) : R2 := fun x y H Q => ∃ l k xs, x = .ref l ∧ y = .int k ∧ SqT K H l xs ∧ -(2 ^ 63) ≤ k ∧ k < 2 ^ 63 ∧ xs.length * k.toNat ≤ sizeLine ∧
  ((xs = [] ∨ k = 1) → Q (.ref l) H) ∧ (¬ (xs = [] ∨ k = 1) → newT H (List.replicate k.toNat xs).flatten Q)
section
variable {X : Cx}
theorem op_repTA : OpR X (binaryOp .Mult) (rRepTA X.K) := by
  intro pins s σ H x y v u Q I rx ry h
  obtain ⟨l, k, xs, rfl, rfl, hT, h1, h2, hz, q1, q2⟩ := h
  cases rx
  obtain ⟨t, rfl⟩ := ry
  obtain ⟨its, r, ⟨⟨cls, dd, data, sl⟩, ho, hc, n, hd⟩, hs⟩ := I.tuple hT
  simp only at hc hd
  subst hc hd
  have hl := r.length
  have hnil : its = [] ↔ xs = [] := r.nil_iff
  have hie : its.toArray.isEmpty = decide (xs = []) := by
    by_cases e : xs = []
    · rw [decide_eq_true e, hnil.mpr e]; rfl
    · rw [decide_eq_false e]
      have e' : its ≠ [] := fun z => e (hnil.mp z)
      cases its with
      | nil => exact absurd rfl e'
      | cons a b => rfl
  have c0 : (decide (k < -(2 ^ 63)) || decide (k ≥ 2 ^ 63)) = false := by
    rw [decide_eq_false (by omega), decide_eq_false (by omega)] <;> rfl
  have go : ∀ {Q' : Value → Shared → Prop} (Z : Shared → Value) (G : Shared → Shared), Meets (Builtin.«tuple.__mul__» ⟨[.ref l, .int k t], []⟩) (fun _ R s => s.heap.get? l = some { cls := .type "tuple", dict := dd, data := .seq its.toArray n, slots := sl } ∧ R (.ok (.ret (Z s))) (G s)) →
      Q' (Z s) (G s) → wpAny (model X.prog X.w) X.A (binaryOp .Mult (.ref l) (.int k t)) Q' X.xe s := fun {Q'} Z G M q =>
    wpAny_binaryOp_repeat_ref (T := "tuple") (U := "int") (by decide) ⟨_, ho, rfl⟩ (fun s' => typeIs_int s' k t) noFill_tuple_mul F.fills_int_mul F.slot_int_rmul repeat_tuple F.slot_int_index.lookup
      (call_meets F.slot_int_rmul (typeIs_int s k t) F.entry_int_rmul (F.args_int_rmul_2 _ _) (int_rmul_seq k t l "tuple" its.toArray n dd sl (.inr rfl))
        ⟨ho, rfl, ⟨_, ho, rfl⟩, call_meets F.slot_tuple_mul ⟨_, ho, rfl⟩ F.entry_tuple_mul (F.args_tuple_mul_2 _ _) M ⟨ho, q⟩⟩)
  by_cases hs1 : xs = [] ∨ k = 1
  · have c1 : (its.toArray.isEmpty || k == 1) = true := by
      rw [hie, Bool.or_eq_true, decide_eq_true_eq, beq_iff_eq]
      exact hs1
    exact go (fun _ => .ref l) (fun s => s) (tuple_mulS l its.toArray n dd sl k t c0 c1) ⟨.ref l, H, I, rfl, q1 hs1⟩
  · have c1 : (its.toArray.isEmpty || k == 1) = false := by
      rw [hie, Bool.or_eq_false_iff, decide_eq_false_iff_not, beq_eq_false_iff_ne]
      exact ⟨fun z => hs1 (.inl z), fun z => hs1 (.inr z)⟩
    have hie0 : its.toArray.isEmpty = false := by rw [hie]; exact decide_eq_false fun z => hs1 (.inl z)
    have fin : ∀ {h' : Heap}, h' = s.heap.push { cls := Value.type "tuple", data := Data.seq ((List.replicate k.toNat its).flatten.toArray) } → EP X pins σ Q (.ref s.heap.objs.size) { s with heap := h' } := by
      rintro h' rfl
      have J := tup_laid (t' := s.toks) (h' := s.heap.push (tupB (List.replicate k.toNat its).flatten)) I (fun _ _ => Heap.get?_push_of_some _) (Nat.le_refl _) (r.rep k.toNat) (by rw [flatten_len, Nat.mul_comm]; exact hz) (Heap.get?_push_size _ rfl)
      exact ⟨.ref _, _, J, rfl, q2 hs1 _ _ I.fresh⟩
    by_cases hk : k ≤ 0
    · refine go (fun s => .ref s.heap.objs.size) (fun s => { s with heap := s.heap.push { cls := Value.type "tuple", data := Data.seq #[] }, toks := s.toks }) (tuple_mul0 l its.toArray n dd sl k t c0 c1 (by rw [decide_eq_true hk]; rfl)) (fin ?_)
      rw [show k.toNat = 0 by omega]
      rfl
    · have hlen : its.toArray.size * k.toNat ≤ sizeLine := by rw [List.size_toArray, ← hl]; exact hz
      have hsl := sizeLine_eq
      have ek : ((its.toArray.size : Nat) : Int) * k = ((its.toArray.size * k.toNat : Nat) : Int) := by rw [Int.natCast_mul, Int.toNat_of_nonneg (by omega)]
      refine go (fun s => .ref s.heap.objs.size) (fun s => { s with heap := s.heap.push { cls := Value.type "tuple", data := Data.seq (List.foldl (fun x1 x2 => x1 ++ x2) #[] (List.replicate k.toNat its.toArray)) }, toks := s.toks }) (tuple_mulW l its.toArray n dd sl k t c0 c1 (by rw [decide_eq_false hk, hie0]; rfl) (by rw [ek]; omega) ?_ ?_) (fin (h' := s.heap.push { cls := Value.type "tuple", data := Data.seq (List.foldl (fun x1 x2 => x1 ++ x2) #[] (List.replicate k.toNat its.toArray)) }) (by rw [size_rep]))
      · rw [ek]
        unfold Builtin.Tuple.tupleTooMany
        exact decide_eq_false (by omega)
      · rw [size_rep, List.size_toArray, flatten_len, Nat.mul_comm]
        rw [List.size_toArray] at hlen
        exact hlen
/-- products: of ints, of a sequence and an int -/
def mulD : D → D → Option D
  | .int i, .int j => if mulW i j = true then some (.int (i * j)) else none
  | .list ds, .int k => if immutAll ds = true ∧ -(2 ^ 63) ≤ k ∧ k < 2 ^ 63 ∧ ds.length * k.toNat ≤ sizeLine then some (.list (List.replicate k.toNat ds).flatten) else none
  | .tuple ds, .int k => if immutAll ds = true ∧ -(2 ^ 63) ≤ k ∧ k < 2 ^ 63 ∧ ds.length * k.toNat ≤ sizeLine then some (.tuple (List.replicate k.toNat ds).flatten) else none
  | _, _ => none
theorem flat_one {α : Type} (l : List α) : (List.replicate (1 : Int).toNat l).flatten = l := by
  rw [show (1 : Int).toNat = 1 from rfl, List.replicate_one, List.flatten_cons, List.flatten_nil, List.append_nil]
theorem op_mulB : OpR X (binaryOp .Mult) (rI (fun i j => mulW i j = true) fun i j => .int (i * j)) := L2.opI fun i j _ _ _ _ _ hc q => by
  refine mul_int q ?_
  simp only [mulW, mulC, Bool.or_eq_true, Bool.and_eq_true, decide_eq_true_eq] at hc
  rcases hc with hc | hc
  · refine CMul.ok ?_
    unfold CMul
    omega
  · exact (wide_mul hc.1 hc.2 (by decide) (by decide) (by decide)).ok
theorem o_mul : OpR X (binaryOp .Mult) (rD2 X.K mulD .own) := by
  refine OpR.impS (OpR.or op_mulB (OpR.or op_repL op_repTA)) fun x y H Q h sz => ?_
  obtain ⟨d, e, r, hd, he, hr, k⟩ := h
  have k := k sz
  cases hd with
  | int i =>
    cases he <;> simp [mulD] at hr
    obtain ⟨hc, rfl⟩ := hr
    refine .inl ⟨_, _, rfl, rfl, ?_, k.own (.int _) (fun _ z => nomatch z) fun _ z => nomatch z⟩
    exact hc
  | lst ha hb =>
    cases he <;> simp [mulD] at hr
    obtain ⟨⟨hi, h1, h2, hz⟩, rfl⟩ := hr
    exact .inr (.inl ⟨_, _, _, rfl, rfl, ha, h1, h2, by rw [← hb.length]; exact hz, fun p hp => k.lst hp (RepAll.rep (immAll_F hb hi) _)⟩)
  | tup ha hb =>
    cases he <;> simp [mulD] at hr
    obtain ⟨⟨hi, h1, h2, hz⟩, rfl⟩ := hr
    have f1 := immAll_F hb hi
    refine .inr (.inr ⟨_, _, _, rfl, rfl, TupF.sq ha, h1, h2, by rw [← hb.length]; exact hz, fun e => ?_, fun _ p its hp => k.tup hp (RepAll.rep f1 _)⟩)
    rename_i vs0 ds' n' k0
    have e2 : (List.replicate n'.toNat ds').flatten = ds' := by
      rcases e with e | e
      · have hl := f1.length
        rw [e] at hl
        rw [List.eq_nil_of_length_eq_zero hl]
        induction n'.toNat with
        | zero => rfl
        | succ m ih => rw [List.replicate_succ, List.flatten_cons, ih]; rfl
      · rw [e]; exact flat_one ds'
    rw [e2] at k
    exact k.own (.tup ha f1) (fun _ z => nomatch z) fun _ z => nomatch z
  | _ => cases he <;> simp [mulD] at hr
end
end Dn
namespace Dn
open PySem PySem.Spec PyProof.Rows L2
variable [Wd]

def truD : D → Option Bool
  | .none => some false
  | .bool b => some b
  | .int i => some (i != 0)
  | .str x => if x.length ≤ sizeLine then some ((x.length : Int) != 0) else none
  | .list ds => some (!ds.isEmpty)
  | .tuple ds => some (!ds.isEmpty)
  | .dict _ => none
theorem RepAll.isEmpty {r : Rdr} {ds : List D} {vs : List V} (h : RepAll r ds vs) : ds.isEmpty = vs.isEmpty := by cases h <;> rfl
theorem tru_of {K : PySem.W.Frag} {H : Hp} {d : D} {v : V} {k : Bool} (h : Rep (rdL K H) d v) (e : truD d = some k) : TruV K v H k := by
  cases h with
  | non => exact (Option.some.inj e).symm
  | bl b => exact (Option.some.inj e).symm
  | int i => exact (Option.some.inj e).symm
  | str x =>
    simp only [truD] at e
    split at e
    · rename_i hc
      exact ⟨hc, (Option.some.inj e).symm⟩
    · cases e
  | lst ha hb => exact .inl ⟨_, ha, by rw [← hb.isEmpty]; exact (Option.some.inj e).symm⟩
  | tup ha hb => exact .inr (.inl ⟨_, TupF.sq ha, by rw [← hb.isEmpty]; exact (Option.some.inj e).symm⟩)
  | dic _ _ _ => cases e

section
variable {X : Cx} {B : Addr → Prop} {M : MEnv} {w wa wb wc : Bool} {a b c e : Expr} {rest : List Expr} {f g : CE} {m ma mb mo : Md} {pos : Pos}

/-- what is left of a reading behind a first part -/
theorem td_then {K : PySem.W.Frag} {σ : L2.St} {H H1 : Hp} {Q : VK} {o o1 : Fp} {δ1 δ2 : Env} {d : D} (k : ∀ v H' o' p, Kp (wa || wb) o H H' → R K B H' σ δ2 M o' → Sub o H o' → RRep K H' B m d v p → (∀ a, p a → H a = none ∧ ¬ o'.any a) → (∀ a, p a → ∃ u, H' a = some u ∧ Mut (some u)) → Q v H')
    (k1 : Kp wa o H H1) (s1 : Sub o H o1) (R1 : R K B H1 σ δ1 M o1) (hg : g δ1 = some (d, δ2)) : TD K B M wb g m σ H1 Q :=
  ⟨δ1, o1, d, δ2, R1, hg, fun v H' o' p k2 R2 s2 r2 f2 c2 => k v H' o' p ((k1.up fun z => by rw [z]; rfl).trans s1 (k2.up fun z => by rw [z]; simp)) R2 (s1.trans k1 s2) r2 (fun a q => ⟨k1.there a (f2 a q).1, (f2 a q).2⟩) c2⟩
/-- the result is the first part's -/
theorem td_stop {K : PySem.W.Frag} {σ : L2.St} {H H1 : Hp} {Q : VK} {o o1 : Fp} {δ1 : Env} {d : D} {v : V} {p : Addr → Prop} (k : ∀ v H' o' p, Kp (wa || wb) o H H' → R K B H' σ δ1 M o' → Sub o H o' → RRep K H' B m d v p → (∀ a, p a → H a = none ∧ ¬ o'.any a) → (∀ a, p a → ∃ u, H' a = some u ∧ Mut (some u)) → Q v H')
    (k1 : Kp wa o H H1) (s1 : Sub o H o1) (R1 : R K B H1 σ δ1 M o1) (r1 : RRep K H1 B m d v p) (f1 : ∀ a, p a → H a = none ∧ ¬ o1.any a) (c1 : ∀ a, p a → ∃ u, H1 a = some u ∧ Mut (some u)) : Q v H1 :=
  k v H1 o1 p (k1.up fun z => by rw [z]; rfl) R1 s1 r1 f1 c1

def andV (f g : CE) : CE := fun δ => (f δ).bind fun p => (truD p.1).bind fun b => if b = true then g p.2 else some p
def orV (f g : CE) : CE := fun δ => (f δ).bind fun p => (truD p.1).bind fun b => if b = true then some p else g p.2
theorem de_one {op : BoolOp} (h : DE X B M w a f m) : DE X B M w (.BoolOp op [a] pos) f m := pe_one h
theorem de_and (ha : DE X B M wa a f m) (hb : DE X B M wb (.BoolOp .And (b :: rest) pos) g m) : DE X B M (wa || wb) (.BoolOp .And (a :: b :: rest) pos) (andV f g) m := PE.mono (pe_andT ha hb) fun σ H Q h => by
  obtain ⟨δ, o, d, δ2, hR, hf, k⟩ := h
  obtain ⟨⟨d1, δ1⟩, h1, hf⟩ := Option.bind_eq_some_iff.mp hf
  obtain ⟨c, ht, hf⟩ := Option.bind_eq_some_iff.mp hf
  refine ⟨δ, o, d1, δ1, hR, h1, fun v H1 o1 p1 k1 R1 s1 r1 f1 c1 => ⟨c, tru_of r1.lent ht, ?_⟩⟩
  cases c with
  | true => exact td_then k k1 s1 R1 hf
  | false =>
    cases hf
    exact td_stop k k1 s1 R1 r1 f1 c1
def notD (d : D) : Option D := (truD d).map fun b => .bool (!b)
theorem de_not (ha : DE X B M w a f m) : DE X B M w (.UnaryOp .Not a pos) (c1 notD f) .frz := PE.mono (pe_notT ha) fun σ H Q h => by
  obtain ⟨δ, o, r, δ1, hR, hf, k⟩ := h
  obtain ⟨d, h1, h3⟩ := c1_inv hf
  obtain ⟨c, hc, rfl⟩ := Option.map_eq_some_iff.mp h3
  exact ⟨δ, o, d, δ1, hR, h1, fun v H1 o1 p1 k1 R1 s1 r1 f1 c1 => ⟨c, tru_of r1.lent hc, k (.bl (!c)) H1 o1 noP k1 R1 s1 (.bl _) (fun _ z => z.elim) fun _ z => z.elim⟩⟩

abbrev CT := Env → Option (Bool × Env)
def TT' (K : PySem.W.Frag) (B : Addr → Prop) (M : MEnv) (w : Bool) (f : CT) : TT := fun σ H Q => ∃ δ o b δ', R K B H σ δ M o ∧ f δ = some (b, δ') ∧
  ∀ H' o', Kp w o H H' → R K B H' σ δ' M o' → Sub o H o' → Q b H'
abbrev DT (X : Cx) (B : Addr → Prop) (M : MEnv) (w : Bool) (e : Expr) (f : CT) : Prop := PT X e (TT' X.K B M w f)
abbrev DW (X : Cx) (B : Addr → Prop) (M : MEnv) (w : Bool) (e : Expr) (f : CT) : Prop := PW X e (TT' X.K B M w f)
def tst (f : CE) : CT := fun δ => (f δ).bind fun p => (truD p.1).bind fun b => some (b, p.2)
def tstB (f : CE) : CT := fun δ => (f δ).bind fun p => match p.1 with | .bool b => some (b, p.2) | _ => none
theorem tstB_inv {f : CE} {δ δ' : Env} {b : Bool} (h : tstB f δ = some (b, δ')) : f δ = some (.bool b, δ') := by
  obtain ⟨⟨d, δ1⟩, h1, h⟩ := Option.bind_eq_some_iff.mp h
  cases d <;> first | (simp at h; done) | skip
  rename_i c
  simp only [Option.some.injEq, Prod.mk.injEq] at h
  rw [← h.1, ← h.2]
  exact h1
theorem dt_val (h : DE X B M w e f m) (he : ∀ whole, isTrue e X.env whole = (do let v ← whole; standAt e.pos; holding [v] (truthy v))) : DT X B M w e (tst f) := PT.mono (pt_truth h he) fun σ H Q q => by
  obtain ⟨δ, o, b, δ', hR, hf, k⟩ := q
  obtain ⟨⟨d, δ1⟩, h1, hf⟩ := Option.bind_eq_some_iff.mp hf
  obtain ⟨c, ht, hf⟩ := Option.bind_eq_some_iff.mp hf
  cases hf
  exact ⟨δ, o, d, δ1, hR, h1, fun v H1 o1 p1 k1 R1 s1 r1 f1 c1 => ⟨_, tru_of r1.lent ht, k H1 o1 k1 R1 s1⟩⟩
theorem dt_cmp {op : CmpOp} {φ : D → D → Option D} (ok : okm ma wb = true) (ho : OpR X (compareOp op) (rD2 X.K φ .frz)) (ha : DE X B M wa a f ma) (hb : DE X B M wb b g mb) (hk : behindInMarks op b = false) : DT X B M (wa || wb) (.Compare a [op] [b] pos) (tstB (c2 φ f g)) :=
  PT.mono (pt_cmpR ho ha hb hk) fun σ H Q q => by
    obtain ⟨δ, o, b, δ', hR, hf, k⟩ := q
    refine td_2 (mo := .frz) X.K ok σ H _ ⟨δ, o, .bool b, δ', hR, tstB_inv hf, fun v H' o' p k1 R1 s1 r1 f1 c1 => ⟨b, ?_, k H' o' k1 R1 s1⟩⟩
    cases (show Rep (rdF X.K H') (.bool b) v from r1)
    rfl
def andT (f g : CT) : CT := fun δ => (f δ).bind fun p => if p.1 = true then g p.2 else some (false, p.2)
def orT (f g : CT) : CT := fun δ => (f δ).bind fun p => if p.1 = true then some (true, p.2) else g p.2
def notT (f : CT) : CT := fun δ => (f δ).bind fun p => some (!p.1, p.2)
section
variable {f g : CT}
theorem dw_and1 (ha : DT X B M w a f) : DW X B M w (.BoolOp .And [a] pos) f := pw_and1 ha
theorem dw_or1 (ha : DT X B M w a f) : DW X B M w (.BoolOp .Or [a] pos) f := pw_or1 ha
theorem PW.mono {X : Cx} {e : Expr} {t t' : TT} (h : PW X e t) (i : ∀ σ H Q, t' σ H Q → t σ H Q) : PW X e t' := ⟨fun wh pins s σ H Q I q => h.run wh pins s σ H Q I (i σ H Q q)⟩
theorem tt_then {K : PySem.W.Frag} {σ : L2.St} {H H1 : Hp} {Q : Bool → Hp → Prop} {o o1 : Fp} {δ1 δ2 : Env} {d : Bool} (k : ∀ H' o', Kp (wa || wb) o H H' → R K B H' σ δ2 M o' → Sub o H o' → Q d H')
    (k1 : Kp wa o H H1) (s1 : Sub o H o1) (R1 : R K B H1 σ δ1 M o1) (hg : g δ1 = some (d, δ2)) : TT' K B M wb g σ H1 Q :=
  ⟨δ1, o1, d, δ2, R1, hg, fun H' o' k2 R2 s2 => k H' o' ((k1.up fun z => by rw [z]; rfl).trans s1 (k2.up fun z => by rw [z]; simp)) R2 (s1.trans k1 s2)⟩
theorem dw_and (ha : DT X B M wa a f) (hb : DW X B M wb (.BoolOp .And (b :: rest) pos) g) : DW X B M (wa || wb) (.BoolOp .And (a :: b :: rest) pos) (andT f g) := PW.mono (pw_and ha hb) fun σ H Q q => by
  obtain ⟨δ, o, c, δ2, hR, hf, k⟩ := q
  obtain ⟨⟨b1, δ1⟩, h1, hf⟩ := Option.bind_eq_some_iff.mp hf
  refine ⟨δ, o, b1, δ1, hR, h1, fun H1 o1 k1 R1 s1 => ?_⟩
  cases b1 with
  | true => exact tt_then k k1 s1 R1 hf
  | false =>
    cases hf
    exact k H1 o1 (k1.up fun z => by rw [z]; rfl) R1 s1
theorem dw_or (ha : DT X B M wa a f) (hb : DW X B M wb (.BoolOp .Or (b :: rest) pos) g) : DW X B M (wa || wb) (.BoolOp .Or (a :: b :: rest) pos) (orT f g) := PW.mono (pw_or ha hb) fun σ H Q q => by
  obtain ⟨δ, o, c, δ2, hR, hf, k⟩ := q
  obtain ⟨⟨b1, δ1⟩, h1, hf⟩ := Option.bind_eq_some_iff.mp hf
  refine ⟨δ, o, b1, δ1, hR, h1, fun H1 o1 k1 R1 s1 => ?_⟩
  cases b1 with
  | false => exact tt_then k k1 s1 R1 hf
  | true =>
    cases hf
    exact k H1 o1 (k1.up fun z => by rw [z]; rfl) R1 s1
theorem dt_bool (h : DW X B M w e f) : DT X B M w e f := PW.pt h
theorem dt_not (ha : DT X B M w a f) : DT X B M w (.UnaryOp .Not a pos) (notT f) := PT.mono (pt_not ha) fun σ H Q q => by
  obtain ⟨δ, o, c, δ2, hR, hf, k⟩ := q
  obtain ⟨⟨b1, δ1⟩, h1, hf⟩ := Option.bind_eq_some_iff.mp hf
  cases hf
  exact ⟨δ, o, b1, δ1, hR, h1, fun H1 o1 k1 R1 s1 => k H1 o1 k1 R1 s1⟩
end
def ifV (t : CT) (f g : CE) : CE := fun δ => (t δ).bind fun p => if p.1 = true then f p.2 else g p.2
theorem de_if {t : CT} (hc : DT X B M wc c t) (ha : DE X B M wa a f m) (hb : DE X B M wb b g m) : DE X B M (wc || (wa || wb)) (.IfExp c a b pos) (ifV t f g) m := PE.mono (pe_ifExp hc ha hb) fun σ H Q q => by
  obtain ⟨δ, o, d, δ2, hR, hf, k⟩ := q
  obtain ⟨⟨b1, δ1⟩, h1, hf⟩ := Option.bind_eq_some_iff.mp hf
  refine ⟨δ, o, b1, δ1, hR, h1, fun H1 o1 k1 R1 s1 => ?_⟩
  cases b1 with
  | true => exact td_then (wb := wa) (fun v H' o' p k2 => k v H' o' p (k2.up fun z => by revert z; cases wc <;> cases wa <;> cases wb <;> simp)) k1 s1 R1 hf
  | false => exact td_then (wb := wb) (fun v H' o' p k2 => k v H' o' p (k2.up fun z => by revert z; cases wc <;> cases wa <;> cases wb <;> simp)) k1 s1 R1 hf

def ch (φ ψ : D → D → Option D) (f g h : CE) : CE := fun δ => (f δ).bind fun p => (g p.2).bind fun q => (φ p.1 q.1).bind fun r => match r with
  | .bool true => (h q.2).bind fun s => (ψ q.1 s.1).bind fun r' => some (r', s.2)
  | .bool false => some (.bool false, q.2)
  | _ => none
theorem td_ch {φ ψ : D → D → Option D} {h : CE} {mc : Md} (K : PySem.W.Frag) (ok : okm ma wb = true) (ok2 : okm mb wc = true) (σ : L2.St) (H : Hp) (Q : VK) (q : TD K B M (wa || wb || wc) (ch φ ψ f g h) .frz σ H Q) :
    tChain (rD2 K φ .frz) (rD2 K ψ .frz) (TD K B M wa f ma) (TD K B M wb g mb) (TD K B M wc h mc) σ H Q := by
  obtain ⟨δ, o, r, δ3, hR, hf, k⟩ := q
  obtain ⟨⟨d1, δ1⟩, h1, hf⟩ := Option.bind_eq_some_iff.mp hf
  obtain ⟨⟨d2, δ2⟩, h2, hf⟩ := Option.bind_eq_some_iff.mp hf
  obtain ⟨r1, h3, hf⟩ := Option.bind_eq_some_iff.mp hf
  refine ⟨δ, o, d1, δ1, hR, h1, fun v H1 o1 p1 k1 R1 s1 rp1 f1 c1 => ⟨δ1, o1, d2, δ2, R1, h2, fun w H2 o2 p2 k2 R2 s2 rp2 f2 c2 => ?_⟩⟩
  refine ⟨d1, d2, r1, (RRep.keep (σ := σ) (M := M) R1 rp1 k2 (fun a q => (f1 a q).2) ok).lent, rp2.lent, h3, fun _ z H3 p3 k3 rp3 f3 c3 => ?_⟩
  have kk : Kp (wa || wb) o H H2 := (k1.up fun z => by rw [z]; rfl).trans s1 (k2.up fun z => by rw [z]; simp)
  have ss : Sub o H o2 := s1.trans k1 s2
  have R3 := R2.keep k3
  have rp2' : RRep K H3 B mb d2 w p2 := by
    refine RRep.keep (w := false) R2 rp2 (Kp.all k3) (fun a q => (f2 a q).2) ?_
    cases mb <;> rfl
  cases r1 with
  | bool c =>
    cases (show Rep (rdF K H3) (.bool c) z from rp3 B)
    refine ⟨c, rfl, ?_⟩
    cases c with
    | true =>
      obtain ⟨⟨d3, δ3'⟩, h4, hf⟩ := Option.bind_eq_some_iff.mp hf
      obtain ⟨r2, h5, hf⟩ := Option.bind_eq_some_iff.mp hf
      cases hf
      refine ⟨δ2, o2, d3, _, R3, h4, fun x H4 o4 p4 k4 R4 s4 rp4 f4 c4 => ?_⟩
      refine ⟨d2, d3, r, (RRep.keep (σ := σ) (M := M) R3 rp2' k4 (fun a q => (f2 a q).2) ok2).lent, rp4.lent, h5, fun _ y H5 p5 k5 rp5 f5 c5 => ?_⟩
      have kk3 : Kp (wa || wb) o H H3 := kk.trans ss (Kp.all k3)
      have kk4 : Kp (wa || wb || wc) o H H4 := (kk3.up fun z => by rw [z]; rfl).trans ss (k4.up fun z => by rw [z]; simp)
      have ss4 : Sub o H o4 := ss.trans kk3 s4
      exact k y H5 o4 noP (kk4.trans ss4 (Kp.all k5)) (R4.keep k5) ss4 (rp5 B) (fun _ z => z.elim) fun _ z => z.elim
    | false =>
      cases hf
      have kk3 : Kp (wa || wb || wc) o H H3 := (kk.trans ss (Kp.all k3)).up fun z => by rw [z]; rfl
      exact k (.bl false) H3 o2 noP kk3 R3 ss (.bl false) (fun _ z => z.elim) fun _ z => z.elim
  | _ => cases hf
theorem de_chain {op op' : CmpOp} {φ ψ : D → D → Option D} {h : CE} {mc : Md} (ok : okm ma wb = true) (ok2 : okm mb wc = true) (ho : OpR X (compareOp op) (rD2 X.K φ .frz)) (ho' : OpR X (compareOp op') (rD2 X.K ψ .frz)) (ha : DE X B M wa a f ma) (hb : DE X B M wb b g mb) (hc : DE X B M wc c h mc)
    (hk : lastMarks [op, op'] [b, c] = false) : DE X B M (wa || wb || wc) (.Compare a [op, op'] [b, c] pos) (ch φ ψ f g h) .frz :=
  PE.mono (pe_chain ho ho' ha hb hc hk) fun σ H Q q => td_ch X.K ok ok2 σ H Q q
end
end Dn
namespace Dn
open PySem PySem.Spec PyProof.Rows L2
variable [Wd]

theorem atI_rep {r : Rdr} {ds : List D} {vs : List V} {i : Int} {d : D} (h : RepAll r ds vs) (e : atI ds i = some d) : ∃ v, atI vs i = some v ∧ Rep r d v := by
  unfold atI at e ⊢
  rw [← h.length]
  obtain ⟨j, hj, e⟩ := Option.bind_eq_some_iff.mp e
  rw [hj]
  obtain ⟨v, h1, h2⟩ := h.get e
  exact ⟨v, h1, h2⟩
/-- the mode of a part of a value -/
def ptM : Md → Md | .frz => .frz | .own => .frz | .sta => .sta | _ => .len
def ixD : D → D → Option D
  | .list ds, .int i => atI ds i
  | .tuple ds, .int i => atI ds i
  | .str x, .int i => if x.length ≤ sizeLine then (atI x.cps.toList i).map fun c => .str ⟨#[c]⟩ else none
  | .dict kvs, k => if kyOk kvs k = true then getK kvs k else none
  | _, _ => none
/-- d[k] -/
def rIxDic (K : PySem.W.Frag) : R2 := fun x y H Q => ∃ a xs kvs k v, x = .ref a ∧ DicL K H a xs ∧ RepKv (rdL K H) kvs xs ∧ DOk kvs ∧ Rep (rdL K H) k y ∧ kyOk kvs k = true ∧ getX kvs xs k = some v ∧ Q v H
theorem ix_dic {X : Cx} (hu : X.A.units + 9 < cLine) (hw : X.w = Wd.w) : IxR X (rIxDic X.K) := by
  intro value slice pins s σ H x y v u Q I rx ry h hs
  obtain ⟨a, xs, kvs, k, z, rfl, hr, hv, ok, hk, ky, hg, q⟩ := h
  cases (show v = Value.ref a from rx)
  have hT := dic_typeIs I hr
  unfold subscriptTail
  refine wpAny_bind ?_
  rw [getitemInPython_of_ne hT.not_modules]
  refine wpAny_bind (wpAny_specialOf hT PySem.F.slot_dict_getitem.lookup ?_)
  have fin : wpAny (model X.prog X.w) X.A (subscripted slice false (.ref a) u) (fun r s₃ => wpAny (model X.prog X.w) X.A (letTemporaryGo value (.ref a) r >>= fun _ => pure r) (EP X pins σ Q) X.xe s₃) X.xe s := by
    rw [hs]
    exact wpAny_operating (dic_getItem hu hw I hr hv ok hk ry ky hg fun w' s' I' rw' => wpAny_bind (wpAny_letTemporaryGo (wpAny_pure ⟨z, H, I', rw', q⟩)))
  first
    | exact wpAny_pure (wpAny_bind fin)
    | exact wpAny_bind (wpAny_pure (wpAny_bind fin))
    | exact wpAny_bind fin
/-- a dict that is held by m -/
theorem RRep.dicR {K : PySem.W.Frag} {H : Hp} {B : Addr → Prop} {m : Md} {kvs : List (D × D)} {v : V} {p : Addr → Prop} (h : RRep K H B m (.dict kvs) v p) :
    ∃ a xs r, v = .ref a ∧ DicL K H a xs ∧ RepKv r kvs xs ∧ RepKv (rdL K H) kvs xs ∧ DOk kvs ∧ ∀ d u, Rep r d u → RRep K H B (ptM m) d u noP := by
  have own : Own K H (.dict kvs) v p → ∃ a xs, v = .ref a ∧ DicL K H a xs ∧ RepKv (rdF K H) kvs xs ∧ DOk kvs := fun h => by
    obtain ⟨a, xs, e, q, hl, r, ok⟩ := h
    exact ⟨a, xs, e, .inl (.inl hl), r, ok⟩
  cases m with
  | len => cases h with | dic ha hb ok => exact ⟨_, _, _, rfl, ha, hb, hb, ok, fun _ _ z => z⟩
  | sta => cases h with | dic ha hb ok => exact ⟨_, _, _, rfl, ha.1, hb, RepKv.mono rdA_L hb, ok, fun _ _ z => z⟩
  | frz => cases h with | dic ha hb ok => exact ⟨_, _, _, rfl, ha.L, hb, RepKv.mono rdF_L hb, ok, fun _ _ z => z⟩
  | own =>
    obtain ⟨a, xs, e, hl, r, ok⟩ := own h
    exact ⟨a, xs, _, e, hl, r, RepKv.mono rdF_L r, ok, fun _ _ z => z⟩
  | io b =>
    obtain ⟨a, xs, e, hl, r, ok⟩ := own h.1
    exact ⟨a, xs, _, e, hl, r, RepKv.mono rdF_L r, ok, fun _ _ z => Rep.mono rdF_L z⟩
  | bx =>
    obtain ⟨a, c, _, _, _, e, _⟩ := h
    cases e
  | bio a c =>
    obtain ⟨_, _, _, e, _⟩ := h
    cases e
  | bc c => exact h.elim
/-- a sequence that is held by m: its items, held by ptM m -/
theorem RRep.seqL {K : PySem.W.Frag} {H : Hp} {B : Addr → Prop} {m : Md} {ds : List D} {v : V} {p : Addr → Prop} (h : RRep K H B m (.list ds) v p) :
    ∃ a vs r, v = .ref a ∧ SqL K H a vs ∧ RepAll r ds vs ∧ ∀ d u, Rep r d u → RRep K H B (ptM m) d u noP := by
  have own : Own K H (.list ds) v p → ∃ a vs, v = .ref a ∧ SqL K H a vs ∧ RepAll (rdF K H) ds vs := fun h => by
    obtain ⟨a, vs, e, q, hl, r⟩ := h
    exact ⟨a, vs, e, .inl (.inl hl), r⟩
  cases m with
  | len => cases h with | lst ha hb => exact ⟨_, _, _, rfl, ha, hb, fun _ _ z => z⟩
  | sta => cases h with | lst ha hb => exact ⟨_, _, _, rfl, ha.1, hb, fun _ _ z => z⟩
  | frz => cases h with | lst ha hb => exact ⟨_, _, _, rfl, LstF.sq ha, hb, fun _ _ z => z⟩
  | own =>
    obtain ⟨a, vs, e, hl, r⟩ := own h
    exact ⟨a, vs, _, e, hl, r, fun _ _ z => z⟩
  | io b =>
    obtain ⟨a, vs, e, hl, r⟩ := own h.1
    exact ⟨a, vs, _, e, hl, r, fun _ _ z => Rep.mono rdF_L z⟩
  | bx =>
    obtain ⟨a, c, z⟩ := h
    cases z.lent (K := K) with | lst ha hb => exact ⟨_, _, _, rfl, ha, hb, fun _ _ z => z⟩
  | bio a c => cases BoxAt.lent (K := K) h with | lst ha hb => exact ⟨_, _, _, rfl, ha, hb, fun _ _ z => z⟩
  | bc c => exact h.elim
theorem RRep.seqT {K : PySem.W.Frag} {H : Hp} {B : Addr → Prop} {m : Md} {ds : List D} {v : V} {p : Addr → Prop} (h : RRep K H B m (.tuple ds) v p) :
    ∃ a vs r, v = .ref a ∧ SqT K H a vs ∧ RepAll r ds vs ∧ ∀ d u, Rep r d u → RRep K H B (ptM m) d u noP := by
  have own : Own K H (.tuple ds) v p → ∃ a vs, v = .ref a ∧ SqT K H a vs ∧ RepAll (rdF K H) ds vs := fun h => by
    cases (show Rep (rdF K H) (.tuple ds) v from h) with
    | tup ha hb => exact ⟨_, _, rfl, TupF.sq ha, hb⟩
  cases m with
  | len => cases h with | tup ha hb => exact ⟨_, _, _, rfl, TupF.sq ha, hb, fun _ _ z => z⟩
  | sta => cases h with | tup ha hb => exact ⟨_, _, _, rfl, TupF.sq ha, hb, fun _ _ z => z⟩
  | frz => cases h with | tup ha hb => exact ⟨_, _, _, rfl, TupF.sq ha, hb, fun _ _ z => z⟩
  | own =>
    obtain ⟨a, vs, e, hl, r⟩ := own h
    exact ⟨a, vs, _, e, hl, r, fun _ _ z => z⟩
  | io b =>
    obtain ⟨a, vs, e, hl, r⟩ := own h.1
    exact ⟨a, vs, _, e, hl, r, fun _ _ z => Rep.mono rdF_L z⟩
  | bx =>
    obtain ⟨a, c, _, _, _, e, _⟩ := h
    cases e
  | bio a c =>
    obtain ⟨_, _, _, e, _⟩ := h
    cases e
  | bc c => exact h.elim
/-- data that hold nothing are held by any mode -/
theorem RRep.flat {K : PySem.W.Frag} {H : Hp} {B : Addr → Prop} {m : Md} {d : D} {v : V} (h : ∀ r, Rep r d v) (nl : ∀ ds, d ≠ .list ds) (nd : ∀ kvs, d ≠ .dict kvs) (ni : ∀ a, m ≠ .io a) (nb : m ≠ .bx) (nc : ∀ a c, m ≠ .bio a c) (nd' : ∀ c, m ≠ .bc c) : RRep K H B m d v noP := by
  cases m with
  | len => exact h _
  | sta => exact h _
  | frz => exact h _
  | own => exact Own.ofF (h _) nl nd
  | io a => exact absurd rfl (ni a)
  | bx => exact absurd rfl nb
  | bio a c => exact absurd rfl (nc a c)
  | bc c => exact absurd rfl (nd' c)

section
variable {X : Cx} {B : Addr → Prop} {M : MEnv} {w wa wb wc : Bool} {a b c e : Expr} {es rest : List Expr} {f g : CE} {m ma mb mo : Md} {pos : Pos}
theorem de_ix (hu : X.A.units + 9 < cLine) (hw : X.w = Wd.w) (ok : okm ma wb = true) (ha : DE X B M wa a f ma) (hb : DE X B M wb b g mb) (hs : PlainIx b) : DE X B M (wa || wb) (.Subscript a b pos) (c2 ixD f g) (ptM ma) :=
  PE.mono (pe_ix (IxR.or ix_seq (ix_dic hu hw)) ha hb hs) fun σ H Q h => by
    obtain ⟨δ, o, r, δ2, hR, hf, k⟩ := h
    obtain ⟨d, e, δ1, h1, h2, h3⟩ := c2_inv hf
    refine ⟨δ, o, d, δ1, hR, h1, fun v H1 o1 p1 k1 R1 s1 r1 f1 c1 => ⟨δ1, o1, e, δ2, R1, h2, fun w H2 o2 p2 k2 R2 s2 r2 f2 c2 => ?_⟩⟩
    have r1' := RRep.keep (σ := σ) (M := M) R1 r1 k2 (fun a q => (f1 a q).2) ok
    have kk : Kp (wa || wb) o H H2 := (k1.up fun z => by rw [z]; rfl).trans s1 (k2.up fun z => by rw [z]; simp)
    have fin : ∀ u, RRep X.K H2 B (ptM ma) r u noP → Q u H2 := fun u q => k u H2 o2 noP kk R2 (s1.trans k1 s2) q (fun _ z => z.elim) fun _ z => z.elim
    have dic : ∀ kvs, d = .dict kvs → rIxDic X.K v w H2 Q := fun kvs ed => by
      subst ed
      obtain ⟨a, xs, rr, rfl, hr, hv, hvL, okd, hp⟩ := r1'.dicR
      have h3' : (if kyOk kvs e = true then getK kvs e else none) = some r := h3
      split at h3'
      · rename_i ky
        obtain ⟨u, hg, ru⟩ := hv.get h3'
        exact ⟨a, xs, kvs, e, u, rfl, hr, hvL, okd, r2.lent, ky, hg, fin u (hp _ _ ru)⟩
      · cases h3'
    by_cases hd : ∃ kvs, d = .dict kvs
    · obtain ⟨kvs, hd⟩ := hd
      exact .inr (dic kvs hd)
    refine .inl ?_
    cases e with
    | int i =>
      cases (show Rep (rdL X.K H2) (.int i) w from r2.lent)
      cases d with
      | list ds =>
        obtain ⟨a, vs, r, rfl, hl, hv, hp⟩ := r1'.seqL
        obtain ⟨u, hu, ru⟩ := atI_rep hv h3
        exact .inl ⟨a, vs, i, u, rfl, rfl, hl, hu, fin u (hp _ _ ru)⟩
      | tuple ds =>
        obtain ⟨a, vs, r, rfl, hl, hv, hp⟩ := r1'.seqT
        obtain ⟨u, hu, ru⟩ := atI_rep hv h3
        exact .inr (.inl ⟨a, vs, i, u, rfl, rfl, hl, hu, fin u (hp _ _ ru)⟩)
      | str x =>
        cases (show Rep (rdL X.K H2) (.str x) v from r1'.lent)
        simp only [ixD] at h3
        split at h3
        · rename_i hz
          obtain ⟨c, hc, rfl⟩ := Option.map_eq_some_iff.mp h3
          exact .inr (.inr ⟨x, i, c, rfl, rfl, hz, hc, fin _ (RRep.flat (fun _ => .str _) (fun _ z => nomatch z) (fun _ z => nomatch z) (fun _ z => by cases ma <;> cases z) (fun z => by cases ma <;> cases z) (fun _ _ z => by cases ma <;> cases z) (fun _ z => by cases ma <;> cases z))⟩)
        · cases h3
      | dict kvs => exact absurd ⟨kvs, rfl⟩ hd
      | _ => cases h3
    | _ => cases d <;> first | (cases h3; done) | exact absurd ⟨_, rfl⟩ hd

abbrev CP := Env → Option (Option Int × Env)
def TP' (K : PySem.W.Frag) (B : Addr → Prop) (M : MEnv) (w : Bool) (f : CP) : TO := fun σ H Q => ∃ δ o i δ', R K B H σ δ M o ∧ f δ = some (i, δ') ∧
  ∀ H' o', Kp w o H H' → R K B H' σ δ' M o' → Sub o H o' → Q i H'
abbrev DP (X : Cx) (B : Addr → Prop) (M : MEnv) (w : Bool) (e : Option Expr) (f : CP) : Prop := PO X e (TP' X.K B M w f)
theorem PO.mono {X : Cx} {e : Option Expr} {t t' : TO} (h : PO X e t) (i : ∀ σ H Q, t' σ H Q → t σ H Q) : PO X e t' := ⟨fun pins s σ H Q I q => h.run pins s σ H Q I (i σ H Q q)⟩
def noPt : CP := fun δ => some (none, δ)
def ptOf (f : CE) : CP := fun δ => (f δ).bind fun p => match p.1 with | .int i => some (some i, p.2) | _ => none
theorem dp_none : DP X B M false none noPt := PO.mono po_none fun σ H Q h => by
  obtain ⟨δ, o, i, δ', hR, hf, k⟩ := h
  cases hf
  exact k H o (Kp.refl _ _ _) hR (Sub.refl _ _)
theorem dp_some (h : DE X B M w e f m) : DP X B M w (some e) (ptOf f) := PO.mono (po_some h) fun σ H Q q => by
  obtain ⟨δ, o, i, δ', hR, hf, k⟩ := q
  obtain ⟨⟨d, δ1⟩, h1, hf⟩ := Option.bind_eq_some_iff.mp hf
  cases d <;> first | (simp at hf; done) | skip
  rename_i j
  simp only [Option.some.injEq, Prod.mk.injEq] at hf
  obtain ⟨rfl, rfl⟩ := hf
  refine ⟨δ, o, .int j, δ1, hR, h1, fun v H1 o1 p1 k1 R1 s1 r1 f1 c1 => ?_⟩
  cases (show Rep (rdL X.K H1) (.int j) v from r1.lent)
  exact ⟨j, rfl, k H1 o1 k1 R1 s1⟩
def cutD (ds : List D) (lo hi : Option Int) : List D := (ds.drop (HT.sIx ds.length 0 lo)).take (HT.sIx ds.length ds.length hi - HT.sIx ds.length 0 lo)
theorem cutD_rep {r : Rdr} {ds : List D} {vs : List V} (h : RepAll r ds vs) (lo hi : Option Int) : RepAll r (cutD ds lo hi) (cutV vs lo hi) := by
  unfold cutD cutV
  rw [h.length]
  exact (h.drop _).take _
def slD (d : D) (lo hi : Option Int) : Option D := match d with
  | .list ds => if immutAll ds = true then some (.list (cutD ds lo hi)) else none
  | .tuple ds => if immutAll ds = true then some (.tuple (cutD ds lo hi)) else none
  | .str x => if x.length ≤ sizeLine then some (.str (cutS x lo hi)) else none
  | _ => none
def slV (f : CE) (lo hi : CP) : CE := fun δ => (f δ).bind fun p => (lo p.2).bind fun l => (hi l.2).bind fun h => (slD p.1 l.1 h.1).bind fun r => some (r, h.2)
theorem cut_whole (ds : List D) (lo hi : Option Int) (h : HT.sIx ds.length 0 lo = 0 ∧ HT.sIx ds.length ds.length hi = ds.length) : cutD ds lo hi = ds := by
  unfold cutD
  rw [h.1, h.2]
  simp
theorem de_slice {lo hi : Option Expr} {fl fh : CP} {p2 : Pos} (ok : okm ma wb = true) (ok2 : okm ma wc = true) (ha : DE X B M wa a f ma) (hl : DP X B M wb lo fl) (hh : DP X B M wc hi fh) : DE X B M (wa || wb || wc) (.Subscript a (.Slice lo hi none p2) pos) (slV f fl fh) .own :=
  PE.mono (pe_slice (SlR.or sl_list (SlR.or sl_tupN sl_str)) ha hl hh) fun σ H Q h => by
    obtain ⟨δ, o, r, δ3, hR, hf, k⟩ := h
    obtain ⟨⟨d, δ1⟩, h1, hf⟩ := Option.bind_eq_some_iff.mp hf
    obtain ⟨⟨l, δ2⟩, h2, hf⟩ := Option.bind_eq_some_iff.mp hf
    obtain ⟨⟨u, δ3'⟩, h3, hf⟩ := Option.bind_eq_some_iff.mp hf
    obtain ⟨r', h4, hf⟩ := Option.bind_eq_some_iff.mp hf
    cases hf
    refine ⟨δ, o, d, δ1, hR, h1, fun v H1 o1 p1 k1 R1 s1 r1 f1 c1 => ⟨δ1, o1, l, δ2, R1, h2, fun H2 o2 k2 R2 s2 => ⟨δ2, o2, u, _, R2, h3, fun H3 o3 k3 R3 s3 => ?_⟩⟩⟩
    have r1' := RRep.keep (σ := σ) (M := M) R1 r1 k2 (fun a q => (f1 a q).2) ok
    have k12 : Kp (wa || wb) o H H2 := (k1.up fun z => by rw [z]; rfl).trans s1 (k2.up fun z => by rw [z]; simp)
    have s12 : Sub o H o2 := s1.trans k1 s2
    have r1'' := (RRep.keep (σ := σ) (M := M) R2 r1' k3 (fun a q z => by
      rcases s2 a z with h | h
      · exact (f1 a q).2 h
      · obtain ⟨u, e, _⟩ := c1 a q
        rw [h] at e; cases e) ok2).lent
    have kk : Kp (wa || wb || wc) o H H3 := (k12.up fun z => by rw [z]; rfl).trans s12 (k3.up fun z => by rw [z]; simp)
    have ss : Sub o H o3 := s12.trans k12 s3
    have res : Res X.K .own r H3 Q := fun z H4 p4 k4 r4 f4 c4 => k z H4 o3 p4 (kk.trans ss (Kp.all k4)) (R3.keep k4) ss (r4 B) (fun a q => ⟨kk.there a (f4 a q), R3.fresh (f4 a q)⟩) c4
    cases r1'' with
    | lst ha hb =>
      simp only [slD] at h4
      split at h4
      · rename_i hi
        cases h4
        exact .inl ⟨_, _, rfl, ha, fun p hp => res.lst hp (cutD_rep (immAll_F hb hi) _ _)⟩
      · cases h4
    | tup ha hb =>
      simp only [slD] at h4
      split at h4
      · rename_i hi
        cases h4
        have fb := immAll_F hb hi
        refine .inr (.inl ⟨_, _, rfl, TupF.sq ha, fun hw => ?_, fun _ p its hp => res.tup hp (cutD_rep fb _ _)⟩)
        rw [← fb.length] at hw
        rw [cut_whole _ _ _ hw] at res
        exact res.own (.tup ha fb) (fun _ z => nomatch z) fun _ z => nomatch z
      · cases h4
    | str x =>
      simp only [slD] at h4
      split at h4
      · rename_i hz
        cases h4
        exact .inr (.inr ⟨_, rfl, hz, res.own (.str _) (fun _ z => nomatch z) fun _ z => nomatch z⟩)
      · cases h4
    | _ => cases h4

abbrev CA := Env → Option (List D × Env)
/-- arguments as they are held: frz for ever, else to be read -/
inductive ARep (K : PySem.W.Frag) (H : Hp) (B : Addr → Prop) : List Md → List D → List V → Prop
  | nil : ARep K H B [] [] []
  | cons {m : Md} {ms : List Md} {d : D} {ds : List D} {v : V} {vs : List V} {p : Addr → Prop} : RRep K H B m d v p → ARep K H B ms ds vs → ARep K H B (m :: ms) (d :: ds) (v :: vs)
def TA' (K : PySem.W.Frag) (B : Addr → Prop) (M : MEnv) (w : Bool) (f : CA) (ms : List Md) : TA := fun σ H Q => ∃ δ o ds δ', R K B H σ δ M o ∧ f δ = some (ds, δ') ∧
  ∀ vs H' o', Kp w o H H' → R K B H' σ δ' M o' → Sub o H o' → ARep K H' B ms ds vs → Q vs H'
abbrev DA (X : Cx) (B : Addr → Prop) (M : MEnv) (w : Bool) (es : List Expr) (f : CA) (ms : List Md) : Prop := PA X es (TA' X.K B M w f ms)
def aNil : CA := fun δ => some ([], δ)
def aCons (f : CE) (g : CA) : CA := fun δ => (f δ).bind fun p => (g p.2).bind fun q => some (p.1 :: q.1, q.2)
theorem da_nil : DA X B M false [] aNil [] := PA.mono pa_nil fun σ H Q h => by
  obtain ⟨δ, o, ds, δ', hR, hf, k⟩ := h
  cases hf
  exact k [] H o (Kp.refl _ _ _) hR (Sub.refl _ _) .nil
theorem da_cons {g : CA} {ms : List Md} (ok : okm m wb = true) (ha : DE X B M wa e f m) (hr : DA X B M wb es g ms) (hs : starEach (e :: es) X.env = (false, eval e X.env) :: starEach es X.env) : DA X B M (wa || wb) (e :: es) (aCons f g) (m :: ms) :=
  PA.mono (pa_cons ha hr hs) fun σ H Q h => by
    obtain ⟨δ, o, ds, δ', hR, hf, k⟩ := h
    obtain ⟨⟨d, δ1⟩, h1, hf⟩ := Option.bind_eq_some_iff.mp hf
    obtain ⟨⟨ds', δ2⟩, h2, hf⟩ := Option.bind_eq_some_iff.mp hf
    cases hf
    refine ⟨δ, o, d, δ1, hR, h1, fun v H1 o1 p1 k1 R1 s1 r1 f1 c1 => ⟨δ1, o1, ds', _, R1, h2, fun vs H2 o2 k2 R2 s2 a2 => ?_⟩⟩
    have kk : Kp (wa || wb) o H H2 := (k1.up fun z => by rw [z]; rfl).trans s1 (k2.up fun z => by rw [z]; simp)
    exact k (v :: vs) H2 o2 kk R2 (s1.trans k1 s2) (.cons (RRep.keep (σ := σ) (M := M) R1 r1 k2 (fun a q => (f1 a q).2) ok) a2)
theorem ARep.frz {K : PySem.W.Frag} {H : Hp} {B : Addr → Prop} : ∀ {ms : List Md} {ds : List D} {vs : List V}, ARep K H B ms ds vs → (∀ m ∈ ms, m = .frz) → RepAll (rdF K H) ds vs
  | _, _, _, .nil, _ => .nil
  | _, _, _, .cons (m := m) a b, h => by
    have e : m = .frz := h m (List.mem_cons_self)
    subst e
    exact .cons a (ARep.frz b fun m hm => h m (List.mem_cons_of_mem _ hm))
theorem ARep.lent {K : PySem.W.Frag} {H : Hp} {B : Addr → Prop} : ∀ {ms : List Md} {ds : List D} {vs : List V}, ARep K H B ms ds vs → RepAll (rdL K H) ds vs
  | _, _, _, .nil => .nil
  | _, _, _, .cons a b => .cons a.lent (ARep.lent b)
/-- (a, b, ..) -/
def tupV (f : CA) : CE := fun δ => (f δ).bind fun p => some (.tuple p.1, p.2)
def lstV (f : CA) : CE := fun δ => (f δ).bind fun p => some (.list p.1, p.2)
theorem alen {K : PySem.W.Frag} {H : Hp} {B : Addr → Prop} : ∀ {ms : List Md} {ds : List D} {vs : List V}, ARep K H B ms ds vs → vs.length = ms.length
  | _, _, _, .nil => rfl
  | _, _, _, .cons _ b => congrArg (· + 1) (alen b)
theorem de_tup {f : CA} {ms : List Md} {x1 : Nat} (hm : ∀ m ∈ ms, m = .frz) (hz : ms.length ≤ sizeLine) (h : DA X B M w es f ms) : DE X B M w (.Tuple es x1 pos) (tupV f) .frz := PE.mono (pe_tupN h) fun σ H Q q => by
  obtain ⟨δ, o, d, δ', hR, hf, k⟩ := q
  obtain ⟨⟨ds, δ1⟩, h1, hf⟩ := Option.bind_eq_some_iff.mp hf
  cases hf
  refine ⟨δ, o, ds, _, hR, h1, fun vs H1 o1 k1 R1 s1 a1 => ⟨by rw [alen a1]; exact hz, fun p its hp => ?_⟩⟩
  exact k (.ref p) _ o1 noP (k1.trans s1 (Kp.all (Ext.new hp))) (R1.keep (Ext.new hp)) s1 (Rep.tupNew hp (a1.frz hm)) (fun _ z => z.elim) fun _ z => z.elim
theorem de_lst {f : CA} {ms : List Md} (hm : ∀ m ∈ ms, m = .frz) (hz : ms.length ≤ sizeLine) (h : DA X B M w es f ms) : DE X B M w (.List es pos) (lstV f) .own := PE.mono (pe_lst h) fun σ H Q q => by
  obtain ⟨δ, o, d, δ', hR, hf, k⟩ := q
  obtain ⟨⟨ds, δ1⟩, h1, hf⟩ := Option.bind_eq_some_iff.mp hf
  cases hf
  refine ⟨δ, o, ds, _, hR, h1, fun vs H1 o1 k1 R1 s1 a1 => ⟨by rw [alen a1]; exact hz, fun p hp => ?_⟩⟩
  refine k (.ref p) _ o1 (fun a => a = p) (k1.trans s1 (Kp.all (Ext.new hp))) (R1.keep (Ext.new hp)) s1 ⟨p, vs, rfl, rfl, upd_same, RepAll.mono (rdF_keep fun a u e _ => Ext.new hp a u e) (a1.frz hm)⟩ (fun a e => ?_) fun a e => ⟨.lst vs, by rw [e]; exact upd_same, trivial⟩
  subst e
  exact ⟨k1.there a hp, R1.fresh hp⟩

/-- what a call of a built-in asks, by data -/
def rDN (K : PySem.W.Frag) (φ : List D → Option D) (mo : Md) : List V → Hp → VK → Prop := fun vs H Q => ∃ ds r, RepAll (rdL K H) ds vs ∧ φ ds = some r ∧ (Sz K H → Res K mo r H Q)
def cN (φ : List D → Option D) (f : CA) : CE := fun δ => (f δ).bind fun p => (φ p.1).bind fun r => some (r, p.2)
theorem td_N {φ : List D → Option D} {f : CA} {ms : List Md} (σ : L2.St) (H : Hp) (Q : VK) (K : PySem.W.Frag) (h : TD K B M w (cN φ f) mo σ H Q) : TA' K B M w f ms σ H fun vs H1 => rDN K φ mo vs H1 Q := by
  obtain ⟨δ, o, r, δ', hR, hf, k⟩ := h
  obtain ⟨⟨ds, δ1⟩, h1, hf⟩ := Option.bind_eq_some_iff.mp hf
  obtain ⟨r', h2, hf⟩ := Option.bind_eq_some_iff.mp hf
  cases hf
  exact ⟨δ, o, ds, _, hR, h1, fun vs H1 o1 k1 R1 s1 a1 => ⟨ds, r, a1.lent, h2, fun _ z H3 p3 k3 r3 f3 c3 =>
    k z H3 o1 p3 (k1.trans s1 (Kp.all k3)) (R1.keep k3) s1 (r3 B) (fun a q => ⟨k1.there a (f3 a q), R1.fresh (f3 a q)⟩) c3⟩⟩
end
end Dn
namespace Dn
open PySem PySem.Spec PyProof.Rows L2
variable [Wd]

/-- a def's promise by its denotation F: parameters held by ms, result by mr -/
def spD (K : PySem.W.Frag) (ms : List Md) (mr : Md) (F : List D → Option D) : Sp := fun vs H Q _ => ∃ ds r, ARep K H (fun a => ∃ u, H a = some u) ms ds vs ∧ F ds = some r ∧ Res K mr r H Q
abbrev FnD (P : Program) (w : World) (K : PySem.W.Frag) (mg : Str → Option Value) (base : Heap) (k : Nat) (f : Addr) (fd : FuncData) (ps : List Str) (ms : List Md) (mr : Md) (F : List D → Option D) : Prop :=
  FnOk P w K mg base CX0 k f fd ps (spD K ms mr F)
def aw1 : Md → Md → Bool
  | .frz, .frz => true
  | _, .sta => true
  | _, _ => false
def awOk : List Md → List Md → Bool
  | [], [] => true
  | m :: ms, n :: ns => aw1 m n && awOk ms ns
  | _, _ => false
theorem rdL_A {K : PySem.W.Frag} {H : Hp} : (rdL K H).le (rdA K H fun a => ∃ u, H a = some u) := by
  refine ⟨fun a vs h => ⟨h, ?_⟩, fun _ _ h => h, fun a xs h => ⟨h, ?_⟩, rfl⟩
  · rcases h with (h | ⟨o, h⟩) | h
    · exact .inl ⟨_, h⟩
    · exact .inl ⟨_, h⟩
    · exact .inr (.inr h)
  · rcases h with (h | ⟨o, h⟩) | ⟨o, h⟩
    · exact .inl ⟨_, h⟩
    · exact .inl ⟨_, h⟩
    · exact .inr ⟨o, .inr h⟩
theorem ARep.weak {K : PySem.W.Frag} {H : Hp} {B : Addr → Prop} : ∀ {ms ns : List Md} {ds : List D} {vs : List V}, ARep K H B ms ds vs → awOk ms ns = true → ARep K H (fun a => ∃ u, H a = some u) ns ds vs
  | _, [], _, _, .nil, _ => .nil
  | _, _ :: _, _, _, .nil, h => by simp [awOk] at h
  | _, [], _, _, .cons _ _, h => by simp [awOk] at h
  | _, n :: ns, _, _, .cons (m := m) a b, h => by
    simp only [awOk, Bool.and_eq_true] at h
    refine .cons (p := noP) ?_ (ARep.weak b h.2)
    cases n with
    | frz =>
      cases m with
      | frz => exact a
      | _ => simp [aw1] at h
    | sta => exact Rep.mono rdL_A a.lent
    | _ => cases m <;> simp [aw1] at h
section
variable {X : Cx} {B : Addr → Prop} {M : MEnv} {w wa wb wc : Bool} {a b c e : Expr} {es rest : List Expr} {f g : CE} {m ma mb mo : Md} {pos p : Pos}
theorem td_call {ms ns : List Md} {fa : CA} {F : List D → Option D} {E : XK} (K : PySem.W.Frag) (hw : awOk ms ns = true) (σ : L2.St) (H : Hp) (Q : VK) (h : TD K B M w (cN F fa) mo σ H Q) :
    TA' K B M w fa ms σ H fun vs H1 => spD K ns mo F (vs ++ []) H1 Q E := by
  obtain ⟨δ, o, r, δ', hR, hf, k⟩ := h
  obtain ⟨⟨ds, δ1⟩, h1, hf⟩ := Option.bind_eq_some_iff.mp hf
  obtain ⟨r', h2, hf⟩ := Option.bind_eq_some_iff.mp hf
  cases hf
  exact ⟨δ, o, ds, _, hR, h1, fun vs H1 o1 k1 R1 s1 a1 => ⟨ds, r, by rw [List.append_nil]; exact a1.weak hw, h2, fun z H3 p3 k3 r3 f3 c3 =>
    k z H3 o1 p3 (k1.trans s1 (Kp.all k3)) (R1.keep k3) s1 (r3 B) (fun a q => ⟨k1.there a (f3 a q), R1.fresh (f3 a q)⟩) c3⟩⟩
theorem de_call {k : Nat} {fn : Addr} {fd : FuncData} {ps : List Str} {ms ns : List Md} {fa : CA} {F : List D → Option D} {x : Str} (G : FnD X.prog X.w X.K X.mg X.base k fn fd ps ns mo F) (hr : Room k X.A) (hw : awOk ms ns = true)
    (hg : Gl X x) (hx : X.mg x = some (.ref fn)) (hk : PySem.W.keepIn X.K (.ref fn) = true) (hb : Binds X.K fd ps []) (ha : DA X B M w (e :: es) fa ms)
    (hdb : (x == ("__debug__" : Str)) = false) (he : starEach (e :: es) X.env = (false, eval e X.env) :: starEach es X.env) (hpl : (backTo pos (starEach es X.env)).any (·.1) = false) :
    DE X B M w (.Call (.Name x p) (e :: es) [] pos) (cN F fa) mo :=
  PE.mono (pe_call G hr hg hx hk hb .nil pass0 ha hdb he hpl) fun σ H Q h => td_call X.K hw σ H Q h
end

inductive Fl where
  | nx (δ : Env) | rt (d : D) (δ : Env) | bk (δ : Env) | ct (δ : Env)
abbrev CS := Env → Option Fl
/-- what surrounds a statement: the mode of what is returned, the modes at a break, at a continue, at a return (what callers see) -/
structure Sc where
  mr : Md
  Mb : MEnv
  Mc : MEnv
  Mr : MEnv
/-- what may be returned: new, or what a slot owned -/
def SD (K : PySem.W.Frag) (B : Addr → Prop) (o : Fp) (H : Hp) (S : Sc) (M' : MEnv) (D' : Ends) : Fl → Prop
  | .nx δ' => ∀ σ' H' o', Kp true o H H' → Sub o H o' → R K B H' σ' δ' M' o' → D'.nx σ' H'
  | .bk δ' => ∀ σ' H' o', Kp true o H H' → Sub o H o' → R K B H' σ' δ' S.Mb o' → D'.bk σ' H'
  | .ct δ' => ∀ σ' H' o', Kp true o H H' → Sub o H o' → R K B H' σ' δ' S.Mc o' → D'.ct σ' H'
  | .rt d δ' => ∀ v σ' H' o' p, Kp true o H H' → Sub o H o' → R K B H' σ' δ' S.Mr o' → RRep K H' B S.mr d v p → (∀ a, p a → (o.any a ∨ H a = none) ∧ ¬ o'.any a) → (∀ a, p a → ∃ u, H' a = some u ∧ Mut (some u)) → D'.rt v H'
def TS' (K : PySem.W.Frag) (B : Addr → Prop) (S : Sc) (M : MEnv) (g : CS) (M' : MEnv) : TS := fun D' σ H => ∃ δ o fl, R K B H σ δ M o ∧ g δ = some fl ∧ SD K B o H S M' D' fl
abbrev DS (X : Cx) (B : Addr → Prop) (S : Sc) (M : MEnv) (st : Stmt) (g : CS) (M' : MEnv) : Prop := PS X st (TS' X.K B S M g M')
abbrev DSs (X : Cx) (B : Addr → Prop) (S : Sc) (M : MEnv) (sts : List Stmt) (g : CS) (M' : MEnv) : Prop := PSs X sts (TS' X.K B S M g M')

theorem SD.mono {K : PySem.W.Frag} {B : Addr → Prop} {o o1 : Fp} {H H1 : Hp} {S : Sc} {M' : MEnv} {D' : Ends} {fl : Fl} (h : SD K B o H S M' D' fl) (k : Kp true o H H1) (s : Sub o H o1) : SD K B o1 H1 S M' D' fl := by
  cases fl with
  | nx δ' => exact fun σ' H' o' k' s' r => h σ' H' o' (k.trans s k') (s.trans k s') r
  | bk δ' => exact fun σ' H' o' k' s' r => h σ' H' o' (k.trans s k') (s.trans k s') r
  | ct δ' => exact fun σ' H' o' k' s' r => h σ' H' o' (k.trans s k') (s.trans k s') r
  | rt d δ' =>
    refine fun v σ' H' o' p k' s' r rr f c => h v σ' H' o' p (k.trans s k') (s.trans k s') r rr (fun a q => ⟨?_, (f a q).2⟩) c
    rcases (f a q).1 with z | z
    · exact s a z
    · exact .inr (k.there a z)
section
variable {X : Cx} {B : Addr → Prop} {S : Sc} {M M1 M2 M' : MEnv} {st : Stmt} {rest : List Stmt} {e c : Expr} {f : CE} {g h : CS} {m : Md} {w : Bool} {pos : Pos}
def skip : CS := fun δ => some (.nx δ)
def seqS (g h : CS) : CS := fun δ => (g δ).bind fun fl => match fl with | .nx δ' => h δ' | fl => some fl
theorem dss_nil : DSs X B S M [] skip M := PSs.mono pss_nil fun D' σ H q => by
  obtain ⟨δ, o, fl, hR, hf, k⟩ := q
  cases hf
  exact k σ H o (Kp.refl _ _ _) (Sub.refl _ _) hR
theorem dss_cons (h1 : DS X B S M st g M1) (h2 : DSs X B S M1 rest h M2) : DSs X B S M (st :: rest) (seqS g h) M2 := PSs.mono (pss_cons h1 h2) fun D' σ H q => by
  obtain ⟨δ, o, fl, hR, hf, k⟩ := q
  obtain ⟨fl1, h1, hf⟩ := Option.bind_eq_some_iff.mp hf
  refine ⟨δ, o, fl1, hR, h1, ?_⟩
  cases fl1 with
  | nx δ' => exact fun σ' H' o' k1 s1 R1 => ⟨δ', o', fl, R1, hf, k.mono k1 s1⟩
  | bk δ' => cases hf; exact k
  | ct δ' => cases hf; exact k
  | rt d δ' => cases hf; exact k
end
end Dn
namespace Dn
open PySem PySem.Spec PyProof.Rows L2
variable [Wd]

inductive Wk1 : Option Md → Option Md → Prop
  | same (m : Option Md) : Wk1 m m
  | dead (m : Option Md) : Wk1 m none
  | fs : Wk1 (some .frz) (some .sta)
inductive WkE : MEnv → MEnv → Prop
  | nil {M : MEnv} : WkE M []
  | cons {m n : Option Md} {M N : MEnv} : Wk1 m n → WkE M N → WkE (m :: M) (n :: N)
theorem WkE.refl : ∀ M : MEnv, WkE M M
  | [] => .nil
  | m :: M => .cons (.same m) (WkE.refl M)
theorem WkE.get : ∀ {M N : MEnv} {i : Nat} {n : Md}, WkE M N → N[i]? = some (some n) → ∃ m, M[i]? = some (some m) ∧ Wk1 (some m) (some n)
  | _, _, _, _, .nil, e => by simp at e
  | _, _, 0, n, .cons a b, e => by
    simp at e
    subst e
    cases a with
    | same => exact ⟨n, by simp, .same _⟩
    | fs => exact ⟨_, by simp, .fs⟩
  | _, _, i + 1, n, .cons a b, e => by
    obtain ⟨m, h1, h2⟩ := WkE.get (i := i) (n := n) b (by simpa using e)
    exact ⟨m, by simpa using h1, h2⟩
/-- does a mode write -/
def Md.wr : Md → Bool | .own => true | .io _ => true | .bx => true | .bio _ _ => true | _ => false
/-- .. one flat list or dict -/
def Md.fl : Md → Bool | .own => true | .io _ => true | _ => false
/-- the footprints of what is still one's own -/
def cutO (o : Fp) (N : MEnv) : Fp := fun i a => (∃ n, N[i]? = some (some n) ∧ n.wr = true) ∧ o i a
theorem cutO_le {o : Fp} {N : MEnv} {a : Addr} (h : (cutO o N).any a) : o.any a := let ⟨i, _, q⟩ := h; ⟨i, q⟩
theorem R.weak {K : PySem.W.Frag} {B : Addr → Prop} {H : Hp} {σ : L2.St} {δ : Env} {M N : MEnv} {o : Fp} (r : R K B H σ δ M o) (h : WkE M N) : R K B H σ δ N (cutO o N) := by
  refine ⟨r.len, fun i j a h1 h2 => r.dis i j a h1.2 h2.2, fun i a h => r.cell i a h.2, fun a z => r.sep a (cutO_le z), r.dom, fun i n d h1 h2 => ?_⟩
  obtain ⟨m, e, hw⟩ := h.get h1
  obtain ⟨v, ev, q⟩ := r.at_ i m d e h2
  refine ⟨v, ev, ?_⟩
  cases hw with
  | same =>
    cases n with
    | own => exact Own.keep (Own.sup q fun a z => ⟨⟨_, h1, rfl⟩, z⟩) fun a u e _ => e
    | io b => exact ⟨Own.sup q.1 fun a z => ⟨⟨_, h1, rfl⟩, z⟩, q.2⟩
    | bx =>
      obtain ⟨a, c, z⟩ := q
      exact ⟨a, c, z.sup fun a z => ⟨⟨_, h1, rfl⟩, z⟩⟩
    | bio a c => exact BoxAt.sup q fun a z => ⟨⟨_, h1, rfl⟩, z⟩
    | bc c => exact q
    | len => exact q.elim
    | sta => exact q
    | frz => exact q
  | fs => exact Rep.mono rdF_A q
theorem SD.cut {K : PySem.W.Frag} {B : Addr → Prop} {o o1 : Fp} {H : Hp} {S : Sc} {M' : MEnv} {D' : Ends} {fl : Fl} (h : SD K B o H S M' D' fl) (c : ∀ a, o1.any a → o.any a) : SD K B o1 H S M' D' fl := by
  have k : ∀ {H' : Hp}, Kp true o1 H H' → Kp true o H H' := fun k => ⟨fun a u e n => k.keep a u e fun z q => n z (c a q), k.there⟩
  have s : ∀ {o' : Fp}, Sub o1 H o' → Sub o H o' := fun s a z => (s a z).imp (c a) id
  cases fl with
  | nx δ' => exact fun σ' H' o' k' s' r => h σ' H' o' (k k') (s s') r
  | bk δ' => exact fun σ' H' o' k' s' r => h σ' H' o' (k k') (s s') r
  | ct δ' => exact fun σ' H' o' k' s' r => h σ' H' o' (k k') (s s') r
  | rt d δ' => exact fun v σ' H' o' p k' s' r rr f t => h v σ' H' o' p (k k') (s s') r rr (fun a q => ⟨(f a q).1.imp (c a) id, (f a q).2⟩) t
section
variable {X : Cx} {B : Addr → Prop} {S : Sc} {M M1 M2 M' N : MEnv} {st : Stmt} {sts rest : List Stmt} {e c : Expr} {f : CE} {g h : CS} {m mi : Md} {w : Bool} {pos : Pos}
theorem ts_weak {K : PySem.W.Frag} (hw : WkE M N) (D' : Ends) (σ : L2.St) (H : Hp) (q : TS' K B S M g M' D' σ H) : TS' K B S N g M' D' σ H := by
  obtain ⟨δ, o, fl, hR, hf, k⟩ := q
  exact ⟨δ, cutO o N, fl, hR.weak hw, hf, k.cut fun a z => cutO_le z⟩
theorem DS.weak (hw : WkE M N) (h : DS X B S N st g M') : DS X B S M st g M' := PS.mono h (ts_weak hw)
theorem DSs.weak (hw : WkE M N) (h : DSs X B S N sts g M') : DSs X B S M sts g M' := PSs.mono h (ts_weak hw)
theorem ts_end {K : PySem.W.Frag} (hw : WkE M' N) (D' : Ends) (σ : L2.St) (H : Hp) (q : TS' K B S M g N D' σ H) : TS' K B S M g M' D' σ H := by
  obtain ⟨δ, o, fl, hR, hf, k⟩ := q
  refine ⟨δ, o, fl, hR, hf, ?_⟩
  cases fl with
  | nx δ' => exact fun σ' H' o' k' s' r => k σ' H' (cutO o' N) k' (fun a z => s' a (cutO_le z)) (r.weak hw)
  | bk δ' => exact k
  | ct δ' => exact k
  | rt d δ' => exact k
/-- behind a statement modes may be forgotten -/
theorem DS.fin (hw : WkE M' N) (h : DS X B S M st g M') : DS X B S M st g N := PS.mono h fun D' σ H q => ts_end hw D' σ H q
theorem DSs.fin (hw : WkE M' N) (h : DSs X B S M sts g M') : DSs X B S M sts g N := PSs.mono h fun D' σ H q => ts_end hw D' σ H q
end
end Dn
namespace Dn
open PySem PySem.Spec PyProof.Rows L2
variable [Wd]

def setO (o : Fp) (i : Nat) (p : Addr → Prop) : Fp := fun j a => if j = i then p a else o j a
theorem setO_any {o : Fp} {i : Nat} {p : Addr → Prop} {a : Addr} (h : (setO o i p).any a) : o.any a ∨ p a := by
  obtain ⟨j, h⟩ := h
  unfold setO at h
  split at h
  · exact .inr h
  · exact .inl ⟨j, h⟩
/-- what a slot of this mode may write -/
def fpOf (m : Md) (p : Addr → Prop) : Addr → Prop := if m.wr = true then p else noP
theorem R.set {K : PySem.W.Frag} {B : Addr → Prop} {H : Hp} {σ : L2.St} {δ : Env} {M : MEnv} {o : Fp} {i : Nat} {m : Md} {d : D} {v : V} {p : Addr → Prop} (r : R K B H σ δ M o) (h : RRep K H B m d v p) (hd : ∀ a, p a → ¬ o.any a) (hc : ∀ a, p a → ∃ u, H a = some u ∧ Mut (some u))
    (hB : ∀ a, p a → ¬ B a) (hi : i < σ.length) (hm : okS m = true) : R K B H (σ.set i (some v)) (δ.set i (some d)) (M.set i (some m)) (setO o i (fpOf m p)) := by
  have le : ∀ a, fpOf m p a → p a := fun a z => by
    unfold fpOf at z
    split at z
    · exact z
    · exact z.elim
  refine ⟨by rw [List.length_set, List.length_set]; exact r.len, fun j k a h1 h2 => ?_, fun j a h1 => ?_, fun a z => ?_, r.dom, fun j m' d' h1 h2 => ?_⟩
  · unfold setO at h1 h2
    split at h1
    · split at h2
      · rename_i e1 e2; rw [e1, e2]
      · exact absurd ⟨k, h2⟩ (hd a (le a h1))
    · split at h2
      · exact absurd ⟨j, h1⟩ (hd a (le a h2))
      · exact r.dis j k a h1 h2
  · unfold setO at h1
    split at h1
    · exact hc a (le a h1)
    · exact r.cell j a h1
  · rcases setO_any z with z | z
    · exact r.sep a z
    · exact hB a (le a z)
  · by_cases e : j = i
    · subst e
      have hj : j < δ.length := by rw [← r.len]; exact hi
      rw [List.getElem?_set_self hj] at h2
      have hM : j < M.length := by
        have := (List.getElem?_eq_some_iff.mp h1).1
        rw [List.length_set] at this
        exact this
      rw [List.getElem?_set_self hM] at h1
      cases h1
      cases h2
      refine ⟨v, List.getElem?_set_self hi, ?_⟩
      have es : setO o j (fpOf m p) j = fpOf m p := by funext a; unfold setO; rw [if_pos rfl]
      rw [es]
      cases m with
      | own => exact h
      | io b => exact h
      | bx => exact h
      | bio a c => exact h
      | bc c => cases hm
      | len => cases hm
      | sta => exact h
      | frz => exact h
    · rw [List.getElem?_set_ne (Ne.symm e)] at h1 h2
      obtain ⟨v', e', q⟩ := r.at_ j m' d' h1 h2
      refine ⟨v', by rw [List.getElem?_set_ne (Ne.symm e)]; exact e', ?_⟩
      have es : setO o i (fpOf m p) j = o j := by funext a; unfold setO; rw [if_neg e]
      rw [es]
      exact q
section
variable {X : Cx} {B : Addr → Prop} {S : Sc} {M M1 M2 M' N : MEnv} {st : Stmt} {sts rest body orelse : List Stmt} {e c tg : Expr} {f : CE} {g h : CS} {m mi : Md} {w wc : Bool} {pos : Pos}

theorem DS.frzAt {i : Nat} (hM : M[i]? = some (some .own)) (h : DS X B S (M.set i (some .frz)) st g M') : DS X B S M st g M' := by
  refine ⟨fun pins s σ H D' I q => ?_⟩
  obtain ⟨δ, o, fl, hR, hf, k⟩ := q
  -- what the slot holds
  have hlen : i < M.length := (List.getElem?_eq_some_iff.mp hM).1
  have go : ∀ (H2 : Hp), L2.Inv X pins σ H2 s → Lk H H2 → (∀ a u, H a = some u → ¬ o i a → H2 a = some u) → (∀ a, H2 a = none → H a = none) → (∀ d v, δ[i]? = some (some d) → σ[i]? = some (some v) → Own X.K H d v (o i) → Rep (rdF X.K H2) d v) →
      wpAny (model X.prog X.w) X.A (exec st X.env) (SP X pins D') X.xe s := by
    intro H2 I2 l2 k2 t2 hrep
    have o1 : Fp := fun j a => j ≠ i ∧ o j a
    refine h.run pins s σ H2 D' I2 ⟨δ, fun j a => j ≠ i ∧ o j a, fl, ⟨hR.len, fun j k a h1 h2 => hR.dis j k a h1.2 h2.2, fun j a h1 => ?_, fun a ⟨j, z⟩ => hR.sep a ⟨j, z.2⟩, fun a z => ?_, fun j m d h1 h2 => ?_⟩, hf, ?_⟩
    · obtain ⟨u, e, mu⟩ := hR.cell j a h1.2
      exact ⟨u, k2 a u e fun z => h1.1 (hR.dis j i a h1.2 z), mu⟩
    · obtain ⟨u, e⟩ := hR.dom a z
      exact ⟨u, k2 a u e fun y => hR.sep a ⟨i, y⟩ z⟩
    · by_cases ej : j = i
      · subst ej
        rw [List.getElem?_set_self hlen] at h1
        cases h1
        obtain ⟨v, ev, q⟩ := hR.at_ j .own d hM h2
        exact ⟨v, ev, hrep d v h2 ev q⟩
      · rw [List.getElem?_set_ne (Ne.symm ej)] at h1
        obtain ⟨v, ev, q⟩ := hR.at_ j m d h1 h2
        have kk : ∀ a u, H a = some u → (o j a ∨ ¬ Mut (some u)) → H2 a = some u := fun a u e n => by
          rcases n with n | n
          · exact k2 a u e fun z => ej (hR.dis j i a n z)
          · exact l2.fix a u e n
        refine ⟨v, ev, ?_⟩
        cases m with
        | len => exact q.elim
        | sta => exact Rep.mono (rdA_lk l2) q
        | frz => exact Rep.mono (rdF_lk l2) q
        | own => exact Own.sup (Own.keep q kk) fun a z => ⟨ej, z⟩
        | io b => exact ⟨Own.sup (Own.keep q.1 kk) fun a z => ⟨ej, z⟩, q.2⟩
        | bx =>
          obtain ⟨a, c, z⟩ := q
          exact ⟨a, c, (z.keep kk).sup fun a z => ⟨ej, z⟩⟩
        | bio a c => exact BoxAt.sup (p' := fun a => j ≠ i ∧ o j a) (BoxAt.keep q kk) fun a z => ⟨ej, z⟩
        | bc c => exact q
    · have kp : ∀ {H' : Hp}, Kp true (fun j a => j ≠ i ∧ o j a) H2 H' → Kp true o H H' := fun {H'} z =>
        ⟨fun a u e n => z.keep a u (k2 a u e fun y => n rfl ⟨i, y⟩) fun _ ⟨j, y⟩ => n rfl ⟨j, y.2⟩, fun a e => t2 a (z.there a e)⟩
      have sb : ∀ {o' : Fp}, Sub (fun j a => j ≠ i ∧ o j a) H2 o' → Sub o H o' := fun {o'} z a y => (z a y).imp (fun ⟨j, x⟩ => ⟨j, x.2⟩) (t2 a)
      cases fl with
      | nx δ' => exact fun σ' H' o' k' s' r => k σ' H' o' (kp k') (sb s') r
      | bk δ' => exact fun σ' H' o' k' s' r => k σ' H' o' (kp k') (sb s') r
      | ct δ' => exact fun σ' H' o' k' s' r => k σ' H' o' (kp k') (sb s') r
      | rt d δ' => exact fun v σ' H' o' p k' s' r rr f c => k v σ' H' o' p (kp k') (sb s') r rr (fun a q => ⟨(f a q).1.imp (fun ⟨j, x⟩ => ⟨j, x.2⟩) (t2 a), (f a q).2⟩) c
  cases hd : δ[i]? with
  | none => exact go H I (Lk.refl H) (fun _ _ e _ => e) (fun _ e => e) fun d v e _ _ => by rw [hd] at e; cases e
  | some od =>
    cases od with
    | none => exact go H I (Lk.refl H) (fun _ _ e _ => e) (fun _ e => e) fun d v e _ _ => by rw [hd] at e; cases e
    | some d =>
      obtain ⟨v, ev, q⟩ := hR.at_ i .own d hM hd
      obtain ⟨H2, I2, r2, l2, k2, t2⟩ := own_frz I q
      refine go H2 I2 l2 k2 t2 fun d' v' e1 e2 _ => ?_
      rw [hd] at e1; cases e1
      rw [ev] at e2; cases e2
      exact r2

theorem DSs.frzAt {i : Nat} (hM : M[i]? = some (some .own)) (h : DSs X B S (M.set i (some .frz)) sts g M') : DSs X B S M sts g M' := by
  refine ⟨fun pins s σ H D' I q => ?_⟩
  obtain ⟨δ, o, fl, hR, hf, k⟩ := q
  -- what the slot holds
  have hlen : i < M.length := (List.getElem?_eq_some_iff.mp hM).1
  have go : ∀ (H2 : Hp), L2.Inv X pins σ H2 s → Lk H H2 → (∀ a u, H a = some u → ¬ o i a → H2 a = some u) → (∀ a, H2 a = none → H a = none) → (∀ d v, δ[i]? = some (some d) → σ[i]? = some (some v) → Own X.K H d v (o i) → Rep (rdF X.K H2) d v) →
      wpAny (model X.prog X.w) X.A (execs sts X.env) (SP X pins D') X.xe s := by
    intro H2 I2 l2 k2 t2 hrep
    have o1 : Fp := fun j a => j ≠ i ∧ o j a
    refine h.run pins s σ H2 D' I2 ⟨δ, fun j a => j ≠ i ∧ o j a, fl, ⟨hR.len, fun j k a h1 h2 => hR.dis j k a h1.2 h2.2, fun j a h1 => ?_, fun a ⟨j, z⟩ => hR.sep a ⟨j, z.2⟩, fun a z => ?_, fun j m d h1 h2 => ?_⟩, hf, ?_⟩
    · obtain ⟨u, e, mu⟩ := hR.cell j a h1.2
      exact ⟨u, k2 a u e fun z => h1.1 (hR.dis j i a h1.2 z), mu⟩
    · obtain ⟨u, e⟩ := hR.dom a z
      exact ⟨u, k2 a u e fun y => hR.sep a ⟨i, y⟩ z⟩
    · by_cases ej : j = i
      · subst ej
        rw [List.getElem?_set_self hlen] at h1
        cases h1
        obtain ⟨v, ev, q⟩ := hR.at_ j .own d hM h2
        exact ⟨v, ev, hrep d v h2 ev q⟩
      · rw [List.getElem?_set_ne (Ne.symm ej)] at h1
        obtain ⟨v, ev, q⟩ := hR.at_ j m d h1 h2
        have kk : ∀ a u, H a = some u → (o j a ∨ ¬ Mut (some u)) → H2 a = some u := fun a u e n => by
          rcases n with n | n
          · exact k2 a u e fun z => ej (hR.dis j i a n z)
          · exact l2.fix a u e n
        refine ⟨v, ev, ?_⟩
        cases m with
        | len => exact q.elim
        | sta => exact Rep.mono (rdA_lk l2) q
        | frz => exact Rep.mono (rdF_lk l2) q
        | own => exact Own.sup (Own.keep q kk) fun a z => ⟨ej, z⟩
        | io b => exact ⟨Own.sup (Own.keep q.1 kk) fun a z => ⟨ej, z⟩, q.2⟩
        | bx =>
          obtain ⟨a, c, z⟩ := q
          exact ⟨a, c, (z.keep kk).sup fun a z => ⟨ej, z⟩⟩
        | bio a c => exact BoxAt.sup (p' := fun a => j ≠ i ∧ o j a) (BoxAt.keep q kk) fun a z => ⟨ej, z⟩
        | bc c => exact q
    · have kp : ∀ {H' : Hp}, Kp true (fun j a => j ≠ i ∧ o j a) H2 H' → Kp true o H H' := fun {H'} z =>
        ⟨fun a u e n => z.keep a u (k2 a u e fun y => n rfl ⟨i, y⟩) fun _ ⟨j, y⟩ => n rfl ⟨j, y.2⟩, fun a e => t2 a (z.there a e)⟩
      have sb : ∀ {o' : Fp}, Sub (fun j a => j ≠ i ∧ o j a) H2 o' → Sub o H o' := fun {o'} z a y => (z a y).imp (fun ⟨j, x⟩ => ⟨j, x.2⟩) (t2 a)
      cases fl with
      | nx δ' => exact fun σ' H' o' k' s' r => k σ' H' o' (kp k') (sb s') r
      | bk δ' => exact fun σ' H' o' k' s' r => k σ' H' o' (kp k') (sb s') r
      | ct δ' => exact fun σ' H' o' k' s' r => k σ' H' o' (kp k') (sb s') r
      | rt d δ' => exact fun v σ' H' o' p k' s' r rr f c => k v σ' H' o' p (kp k') (sb s') r rr (fun a q => ⟨(f a q).1.imp (fun ⟨j, x⟩ => ⟨j, x.2⟩) (t2 a), (f a q).2⟩) c
  cases hd : δ[i]? with
  | none => exact go H I (Lk.refl H) (fun _ _ e _ => e) (fun _ e => e) fun d v e _ _ => by rw [hd] at e; cases e
  | some od =>
    cases od with
    | none => exact go H I (Lk.refl H) (fun _ _ e _ => e) (fun _ e => e) fun d v e _ _ => by rw [hd] at e; cases e
    | some d =>
      obtain ⟨v, ev, q⟩ := hR.at_ i .own d hM hd
      obtain ⟨H2, I2, r2, l2, k2, t2⟩ := own_frz I q
      refine go H2 I2 l2 k2 t2 fun d' v' e1 e2 _ => ?_
      rw [hd] at e1; cases e1
      rw [ev] at e2; cases e2
      exact r2

abbrev CG := D → Env → Option Env
/-- σ and σ' differ at the slots ss alone -/
def Off (ss : List Nat) (σ σ' : L2.St) : Prop := σ'.length = σ.length ∧ ∀ j, j ∉ ss → σ'[j]? = σ[j]?
def TG' (K : PySem.W.Frag) (B : Addr → Prop) (M : MEnv) (mi : Md) (t : CG) (M' : MEnv) (ss : List Nat) : TG := fun v σ H Q => ∃ δ o d p δ', R K B H σ δ M o ∧ RRep K H B mi d v p ∧ (∀ a, p a → ¬ o.any a ∧ ¬ B a) ∧ (∀ a, p a → ∃ u, H a = some u ∧ Mut (some u)) ∧ t d δ = some δ' ∧
  ∀ σ' o', R K B H σ' δ' M' o' → (∀ a, o'.any a → o.any a ∨ p a) → Off ss σ σ' → Q σ' H
abbrev DG (X : Cx) (B : Addr → Prop) (M : MEnv) (mi : Md) (tg : Expr) (t : CG) (M' : MEnv) (ss : List Nat) : Prop := PG X tg (TG' X.K B M mi t M' ss)
theorem PG.mono {X : Cx} {e : Expr} {t t' : TG} (h : PG X e t) (i : ∀ v σ H Q, t' v σ H Q → t v σ H Q) : PG X e t' := ⟨fun pins s σ H v u Q I r q => h.run pins s σ H v u Q I r (i v σ H Q q)⟩
theorem PGs.mono {X : Cx} {e : List Expr} {t t' : TGs} (h : PGs X e t) (i : ∀ v σ H Q, t' v σ H Q → t v σ H Q) : PGs X e t' := ⟨fun pins s σ H v u Q I r q => h.run pins s σ H v u Q I r (i v σ H Q q)⟩
def stS (i : Nat) : CG := fun d δ => if i < δ.length then some (δ.set i (some d)) else none
theorem dg_name {i : Nat} (hm : okS mi = true) (h : PG X tg (gName i)) : DG X B M mi tg (stS i) (M.set i (some mi)) [i] := PG.mono h fun v σ H Q q => by
  obtain ⟨δ, o, d, p, δ', hR, r, f, c, ht, k⟩ := q
  unfold stS at ht
  split at ht
  · rename_i hi
    cases ht
    refine k _ _ (hR.set r (fun a z => (f a z).1) c (fun a z => (f a z).2) (by rw [hR.len]; exact hi) hm) (fun a z => ?_) ⟨List.length_set, fun j hj => ?_⟩
    · rcases setO_any z with z | z
      · exact .inl z
      · unfold fpOf at z
        split at z
        · exact .inr z
        · exact z.elim
    · exact List.getElem?_set_ne fun e => hj (by rw [e]; exact List.mem_cons_self)
  · cases ht
def TGs' (K : PySem.W.Frag) (B : Addr → Prop) (M : MEnv) (mi : Md) (t : List D → Env → Option Env) (M' : MEnv) (ss : List Nat) : TGs := fun vs σ H Q => ∃ δ o ds δ' r, R K B H σ δ M o ∧ RepAll r ds vs ∧ (∀ d u, Rep r d u → RRep K H B mi d u noP) ∧ t ds δ = some δ' ∧
  ∀ σ' o', R K B H σ' δ' M' o' → (∀ a, o'.any a → o.any a) → Off ss σ σ' → Q σ' H
abbrev DGs (X : Cx) (B : Addr → Prop) (M : MEnv) (mi : Md) (tgs : List Expr) (t : List D → Env → Option Env) (M' : MEnv) (ss : List Nat) : Prop := PGs X tgs (TGs' X.K B M mi t M' ss)
def tNil' : List D → Env → Option Env := fun ds δ => match ds with | [] => some δ | _ => none
def tCons' (t : CG) (u : List D → Env → Option Env) : List D → Env → Option Env := fun ds δ => match ds with | d :: ds => (t d δ).bind fun δ' => u ds δ' | [] => none
theorem dgs_nil : DGs X B M mi [] tNil' M [] := PGs.mono pgs_nil fun vs σ H Q q => by
  obtain ⟨δ, o, ds, δ', r, hR, hr, hm, ht, k⟩ := q
  cases hr with
  | nil =>
    cases ht
    exact ⟨rfl, k σ o hR (fun _ z => z) ⟨rfl, fun _ _ => rfl⟩⟩
  | cons _ _ => cases ht
theorem dgs_cons {t : CG} {u : List D → Env → Option Env} {ss ts : List Nat} {es : List Expr} (h1 : DG X B M mi e t M1 ss) (h2 : DGs X B M1 mi es u M2 ts) (hs : (assignEach (e :: es) X.env).map (·.2) = assign e X.env :: (assignEach es X.env).map (·.2)) : DGs X B M mi (e :: es) (tCons' t u) M2 (ss ++ ts) :=
  PGs.mono (pgs_cons h1 h2 hs) fun vs σ H Q q => by
    obtain ⟨δ, o, ds, δ', r, hR, hr, hm, ht, k⟩ := q
    cases hr with
    | nil => cases ht
    | cons ra rb =>
      obtain ⟨δ1, h1, ht⟩ := Option.bind_eq_some_iff.mp ht
      refine ⟨_, _, rfl, δ, o, _, noP, δ1, hR, hm _ _ ra, fun _ z => z.elim, fun _ z => z.elim, h1, fun σ1 o1 R1 s1 off1 => ⟨δ1, o1, _, δ', r, R1, rb, hm, ht, fun σ2 o2 R2 s2 off2 => ?_⟩⟩
      refine k σ2 o2 R2 (fun a z => ?_) ⟨off2.1.trans off1.1, fun j hj => ?_⟩
      · rcases s1 a (s2 a z) with q | q
        · exact q
        · exact q.elim
      · rw [List.mem_append, not_or] at hj
        exact (off2.2 j hj.2).trans (off1.2 j hj.1)
theorem PG.or {X : Cx} {e : Expr} {t t' : TG} (h : PG X e t) (h' : PG X e t') : PG X e (fun v σ H Q => t v σ H Q ∨ t' v σ H Q) := ⟨fun pins s σ H v u Q I r q => q.elim (h.run pins s σ H v u Q I r) (h'.run pins s σ H v u Q I r)⟩
def tgT (n : Nat) (t : List D → Env → Option Env) : CG := fun d δ => match d with | .tuple ds => if ds.length = n then t ds δ else none | .list ds => if ds.length = n then t ds δ else none | _ => none
theorem dg_tup {es : List Expr} {kk n : Nat} {t : List D → Env → Option Env} {ss : List Nat} (hc : X.calm = true) (h : DGs X B M (ptM mi) es t M' ss) (hn : (assignEach es X.env).length = n) (hst : (assignEach es X.env).findIdx? (·.1) = none) : DG X B M mi (.Tuple es kk pos) (tgT n t) M' ss :=
  PG.mono (PG.or (pg_tup hc h hn hst) (pg_unl hc h hn hst)) fun v σ H Q q => by
    obtain ⟨δ, o, d, p, δ', hR, r, f, c, ht, k⟩ := q
    cases d <;> first | (cases ht; done) | skip
    all_goals
      rename_i ds
      simp only [tgT] at ht
      split at ht
      · rename_i hl
        first
        | (obtain ⟨a, vs, rd, rfl, hs, hv, hm⟩ := r.seqT
           exact .inl ⟨a, vs, rfl, hs, by rw [← hv.length]; exact hl, δ, o, ds, δ', rd, hR, hv, hm, ht, fun σ' o' R' s' off => k σ' o' R' (fun a z => .inl (s' a z)) off⟩)
        | (obtain ⟨a, vs, rd, rfl, hs, hv, hm⟩ := r.seqL
           exact .inr ⟨a, vs, rfl, hs, by rw [← hv.length]; exact hl, δ, o, ds, δ', rd, hR, hv, hm, ht, fun σ' o' R' s' off => k σ' o' R' (fun a z => .inl (s' a z)) off⟩)
      · cases ht

def asgS (t : CG) (f : CE) : CS := fun δ => (f δ).bind fun p => (t p.1 p.2).bind fun δ' => some (.nx δ')
theorem ta_asg {K : PySem.W.Frag} {t : CG} {ss : List Nat} (D' : Ends) (σ : L2.St) (H : Hp) (q : TS' K B S M (asgS t f) M' D' σ H) : tAsg (TD K B M w f m) (TG' K B M m t M' ss) D' σ H := by
  obtain ⟨δ, o, fl, hR, hf, k⟩ := q
  obtain ⟨⟨d, δ1⟩, h1, hf⟩ := Option.bind_eq_some_iff.mp hf
  obtain ⟨δ', h2, hf⟩ := Option.bind_eq_some_iff.mp hf
  cases hf
  refine ⟨δ, o, d, δ1, hR, h1, fun v H1 o1 p1 k1 R1 s1 r1 f1 c1 => ⟨δ1, o1, d, p1, δ', R1, r1, fun a z => ⟨(f1 a z).2, fun y => ?_⟩, c1, h2, fun σ' o' R' s' _ => ?_⟩⟩
  · obtain ⟨u, e⟩ := hR.dom a y
    rw [(f1 a z).1] at e
    cases e
  · refine k σ' H1 o' (k1.up fun _ => rfl) (fun a z => ?_) R'
    rcases s' a z with q | q
    · exact s1 a q
    · exact .inr (f1 a q).1
theorem ds_asg {t : CG} {ss : List Nat} (he : DE X B M w e f m) (hg : DG X B M m tg t M' ss) (hs : swapsWithSole [tg] e pos.line X.env = pure false) (hw : swappedStores [tg] e X.env = pure none) (h1 : (assignEach [tg] X.env).map (·.2) = [assign tg X.env]) :
    DS X B S M (.Assign [tg] e pos) (asgS t f) M' := PS.mono (ps_asg he hg hs hw h1) fun D' σ H q => ta_asg D' σ H q
/-- name = e -/
theorem ds_set {i : Nat} {x : Str} {pos' : Pos} (hm : okS m = true) (hN : X.N.Nodup) (hi : X.N[i]? = some x) (hx : Loc X.env.scope x) (he : DE X B M w e f m) (hs : swapsWith e (some (.Name x pos')) pos.line X.env = pure false) (hf : X.fn x = true ∨ X.env.scope.names.lookup x = some .local) :
    DS X B S M (.Assign [.Name x pos'] e pos) (asgS (stS i) f) (M.set i (some m)) := PS.mono (ps_set hN hi hx he hs hf) fun D' σ H q => by
  have hg : DG X B M m (.Name x pos') (stS i) (M.set i (some m)) [i] := dg_name hm (pg_name hN hi hx hf)
  obtain ⟨δ, o, fl, hR, hf, k⟩ := q
  obtain ⟨⟨d, δ1⟩, h1, hf⟩ := Option.bind_eq_some_iff.mp hf
  obtain ⟨δ', h2, hf⟩ := Option.bind_eq_some_iff.mp hf
  cases hf
  unfold stS at h2
  split at h2
  · rename_i hi'
    cases h2
    refine ⟨δ, o, d, δ1, hR, h1, fun v H1 o1 p1 k1 R1 s1 r1 f1 c1 => ?_⟩
    refine k _ H1 _ (k1.up fun _ => rfl) (fun a z => ?_) (R1.set r1 (fun a z => (f1 a z).2) c1 (fun a z y => ?_) (by rw [R1.len]; exact hi') hm)
    · rcases setO_any z with z | z
      · exact s1 a z
      · unfold fpOf at z
        split at z
        · exact .inr (f1 a z).1
        · exact z.elim
    · obtain ⟨u, e⟩ := hR.dom a y
      rw [(f1 a z).1] at e
      cases e
  · cases h2
def rtS (f : CE) : CS := fun δ => (f δ).bind fun p => some (.rt p.1 p.2)
theorem ds_ret (hw : WkE M S.Mr) (hm : m = S.mr) (he : DE X B M w e f m) : DS X B S M (.Return (some e) pos) (rtS f) M' := PS.mono (ps_ret he) fun D' σ H q => by
  subst hm
  obtain ⟨δ, o, fl, hR, hf, k⟩ := q
  obtain ⟨⟨d, δ1⟩, h1, hf⟩ := Option.bind_eq_some_iff.mp hf
  cases hf
  refine ⟨δ, o, d, δ1, hR, h1, fun v H1 o1 p1 k1 R1 s1 r1 f1 c1 => k v σ H1 (cutO o1 S.Mr) p1 (k1.up fun _ => rfl) (fun a z => s1 a (cutO_le z)) (R1.weak hw) r1 (fun a z => ⟨.inr (f1 a z).1, fun y => (f1 a z).2 (cutO_le y)⟩) c1⟩
def ifS (t : CT) (g h : CS) : CS := fun δ => (t δ).bind fun p => if p.1 = true then g p.2 else h p.2
theorem ds_if {t : CT} (hc : DT X B M wc c t) (ha : DSs X B S M body g M') (hb : DSs X B S M orelse h M') : DS X B S M (.If c body orelse pos) (ifS t g h) M' := PS.mono (ps_if hc ha hb) fun D' σ H q => by
  obtain ⟨δ, o, fl, hR, hf, k⟩ := q
  obtain ⟨⟨b, δ1⟩, h1, hf⟩ := Option.bind_eq_some_iff.mp hf
  refine ⟨δ, o, b, δ1, hR, h1, fun H1 o1 k1 R1 s1 => ?_⟩
  cases b with
  | true => exact ⟨δ1, o1, fl, R1, hf, k.mono (k1.up fun _ => rfl) s1⟩
  | false => exact ⟨δ1, o1, fl, R1, hf, k.mono (k1.up fun _ => rfl) s1⟩
end
end Dn
namespace Dn
open PySem PySem.Spec PyProof.Rows L2
variable [Wd]

section
variable {X : Cx} {pins : List (Addr × Obj)} {σ : L2.St} {H : Hp} {s : Shared} {d : Addr} {o : Obj} {xs : List (V × Int × V)}
/-- a dict that is never written, as the object it is -/
def FzD (K : PySem.W.Frag) (H : Hp) (d : Addr) (o : Obj) (xs : List (V × Int × V)) : Prop := H d = some (.frz o (DicO d xs)) ∨ DicKo K d o xs
theorem frzX (I : Inv X pins σ H s) (h : FzD X.K H d o xs) : (d == sysModules) = false ∧ s.heap.get? d = some o ∧ o.ExactDict ∧ ∃ es ep, o.data = .dict es ep ∧ es.size = xs.length ∧ Paired EntR xs es.toList ∧ s.heap.DictRaw d es ep := by
  have fin : ∀ {es : Array DictEntry} {ep : Nat}, (d == sysModules) = false → s.heap.get? d = some o → o.ExactDict → o.data = .dict es ep → Paired EntR xs es.toList → (d == sysModules) = false ∧ s.heap.get? d = some o ∧ o.ExactDict ∧ ∃ es ep, o.data = .dict es ep ∧ es.size = xs.length ∧ Paired EntR xs es.toList ∧ s.heap.DictRaw d es ep := by
    intro es ep hs hd h2 h3 h4
    refine ⟨hs, hd, h2, es, ep, h3, ?_, h4, o, hd, h2, h3⟩
    have l1 := Paired.length h4
    rw [Array.length_toList] at l1
    exact l1.symm
  rcases h with h | ⟨h1, h2, h3, es, ep, h4, h5⟩
  · obtain ⟨hd, z⟩ := I.hok d _ h
    obtain ⟨⟨hs, o', es, ep, h1, h2, h3, h4⟩, _⟩ := z
    rw [hd] at h1
    cases h1
    exact fin hs hd h2 h3 h4
  · exact fin h2 (I.kIn d o h1) h3 h4 h5
theorem entAt {es : Array DictEntry} (h : Paired EntR xs es.toList) {i : Nat} (hi : i < es.size) : ∃ y, xs[i]? = some y ∧ EntR y es[i] := by
  have go : ∀ {xs : List (V × Int × V)} {l : List DictEntry} {i : Nat} {e : DictEntry}, Paired EntR xs l → l[i]? = some e → ∃ y, xs[i]? = some y ∧ EntR y e := by
    intro xs l i e h
    induction h generalizing i with
    | nil => intro z; simp at z
    | cons a _ ih =>
      intro z
      cases i with
      | zero => simp at z; subst z; exact ⟨_, rfl, a⟩
      | succ i => simpa using ih (i := i) (by simpa using z)
  exact go h (by simp [hi])
end
/-- keys -/
def ItkX (K : PySem.W.Frag) (d : Addr) (o : Obj) (xs : List (V × Int × V)) : It :=
  ⟨fun i H => FzD K H d o xs ∧ i < xs.length, fun i H x H' => H' = H ∧ ∃ y, xs[i]? = some y ∧ x = y.1, fun i H => FzD K H d o xs ∧ xs.length ≤ i⟩
section
variable {P : Program} {w : World} {K : PySem.W.Frag} {tg : Expr} {d : Addr} {o : Obj} {es : Array DictEntry} {ep : Nat} {xs : List (V × Int × V)}
theorem turn_kX (it : Addr) (hod : o.data = .dict es ep) : Turn P w K tg (ItkX K d o xs) [it] it (fun i h => h.IsKeyIter it d i es.size ep) where
  mem := by simp
  obj := fun i h st b hb => by
    have e : b = it := by simpa using hb
    subst e
    obtain ⟨oi, e, c, dd⟩ := st
    exact ⟨oi, e, fun v z => by rw [dd] at z; cases z⟩
  keep := fun i h h' st k => st.at fun oi e => k it (by simp) oi e
  item := by
    intro X hP hw hK hc i pins s σ H E I hf st hg
    subst hP hw hK
    obtain ⟨hd, hi⟩ := hg
    obtain ⟨f0, f1, f2, f3, f4, f5⟩ := hf it (by simp)
    obtain ⟨hs, hgd, hx, es', ep', hdt, hsz, hent, raw⟩ := frzX I hd
    obtain ⟨rfl, rfl⟩ := dict_ep hod hdt
    have hi' : i < es'.size := by omega
    obtain ⟨y, hy, re⟩ := entAt hent hi'
    refine wpAny_pyNext_keys_item_raw st raw hi' fun h' st' sb => ?_
    have I1 : Inv X pins σ H { s with heap := h' } := I.turned (t' := s.toks) (fun b ob hb e => (sb.2 b hb).trans e) f0 f1 f3 f4 f5
    obtain ⟨oi, e, c, dd⟩ := id st'
    exact ⟨_, rfl, go_of (s := { s with heap := h' }) e c dd (by decide) ⟨y.1, H, I1, re.1, ⟨rfl, y, hy, rfl⟩, st', fun b hb => (hf b hb).1⟩⟩
  done := by
    intro X hP hw hK hc i pins s σ H E I hf st hg
    subst hP hw hK
    obtain ⟨hd, hi⟩ := hg
    obtain ⟨f0, f1, f2, f3, f4, f5⟩ := hf it (by simp)
    obtain ⟨hs, hgd, hx, es', ep', hdt, hsz, hent, raw⟩ := frzX I hd
    obtain ⟨rfl, rfl⟩ := dict_ep hod hdt
    exact wpAny_pyNext_keys_end_raw (I.ok.hd hc) st raw (by omega) fun h' eb => ⟨rfl, I.turned (t' := s.toks) (fun b ob hb e => eb b ob hb e) f0 f1 f3 f4 f5⟩
  self := fun A i s Q E st h => wpAny_pyIter_keyiter st h
end
theorem walk_kX {K : PySem.W.Frag} {d : Addr} {o : Obj} {xs : List (V × Int × V)} : L2.Walk (ItkX K d o xs) xs.length (fun H => FzD K H d o xs) (YAt (xs.map (·.1))) :=
  ⟨fun i _ hi q => ⟨q, hi⟩, fun _ q => ⟨q, Nat.le_refl _⟩, fun i _ _ _ _ _ y => ⟨y.1, by obtain ⟨_, z, hz, e⟩ := y; rw [List.getElem?_map, hz, e]; rfl⟩⟩
section
variable {X : Cx} {tg e : Expr} {td : TE} {apos cpos : Pos}
def iKX (K : PySem.W.Frag) (td : TE) : TI := fun σ H R => td σ H fun x H1 => ∃ d o xs, x = .ref d ∧ FzD K H1 d o xs ∧ R (ItkX K d o xs) H1
theorem pi_kX (he : PE X e td) : PI X tg e (iKX X.K td) := by
  refine ⟨fun pins s σ H R I h => ?_⟩
  refine thn (he.run pins s σ H _ I h) fun u s1 ⟨x, H1, I1, rx, d, o, xs, ex, hd, q⟩ => ?_
  subst ex
  obtain rfl : u = Value.ref d := rx
  obtain ⟨hs, hgd, hx, es, ep, hdt, hsz, hent, raw⟩ := frzX I1 hd
  exact wpAny_pyIter_dict_raw hs raw (pi_one (tk := s1.toks) I1 _ (turn_kX _ hdt) ⟨_, Heap.get?_push_size _ rfl, rfl, rfl⟩ q)
end
end Dn
namespace Dn
open PySem PySem.Spec PyProof.Rows L2
variable [Wd]

section
variable {X : Cx} {B : Addr → Prop} {S : Sc} {M M1 M2 M' N : MEnv} {st : Stmt} {sts rest body orelse : List Stmt} {e c tg iter : Expr} {f : CE} {g h : CS} {m mi : Md} {w wc : Bool} {pos : Pos}
/-- the surroundings of a loop's body -/
abbrev Sc.loop (S : Sc) (M : MEnv) : Sc := ⟨S.mr, M, M, S.Mr⟩
def TI' (K : PySem.W.Frag) (B : Addr → Prop) (M : MEnv) (w : Bool) (f : CA) (mi : Md) : TI := fun σ H Rr => ∃ δ o ds δ', R K B H σ δ M o ∧ f δ = some (ds, δ') ∧
  ∀ J H' o' (G : Hp → Prop) (Y : Nat → Hp → V → Hp → Prop), Kp w o H H' → R K B H' σ δ' M o' → Sub o H o' → ds.length ≤ sizeLine → L2.Walk J ds.length G Y → (∀ H2, Kp true o' H' H2 → G H2) →
    (∀ i H1 x H2, Kp true o' H' H1 → Y i H1 x H2 → ∃ d, ds[i]? = some d ∧ Ext H1 H2 ∧ RRep K H2 B mi d x noP) → Rr J H'
abbrev DI (X : Cx) (B : Addr → Prop) (M : MEnv) (w : Bool) (tg iter : Expr) (f : CA) (mi : Md) : Prop := PI X tg iter (TI' X.K B M w f mi)
theorem PI.mono {X : Cx} {tg iter : Expr} {t t' : TI} (h : PI X tg iter t) (i : ∀ σ H Q, t' σ H Q → t σ H Q) : PI X tg iter t' := ⟨fun pins s σ H Q I q => h.run pins s σ H Q I (i σ H Q q)⟩
/-- a mode of what is walked while its items are used -/
def wkM : Md → Bool | .frz => true | .sta => true | .own => true | _ => false
def chars (x : Str) : List D := x.cps.toList.map fun c => .str ⟨#[c]⟩
def itemsD : D → Option (List D)
  | .list ds => some ds
  | .tuple ds => some ds
  | .str x => if x.cps.size ≤ sizeLine then some (chars x) else none
  | .dict kvs => some (kvs.map (·.1))
  | _ => none
def seqI (f : CE) : CA := fun δ => (f δ).bind fun p => (itemsD p.1).bind fun ds => some (ds, p.2)
/-- a value that is walked stays as it is -/
theorem RRep.stay {K : PySem.W.Frag} {B : Addr → Prop} {H : Hp} {σ : L2.St} {δ : Env} {M : MEnv} {o : Fp} {m : Md} {ds : List D} {v : V} {p : Addr → Prop} (r : R K B H σ δ M o) (h : RRep K H B m (.list ds) v p) (hp : ∀ a, p a → ¬ o.any a) (hm : wkM m = true) :
    ∃ a vs, v = .ref a ∧ vs.length = ds.length ∧ (∀ H2, Kp true o H H2 → SqL K H2 a vs) ∧ ∀ H2, Kp true o H H2 → ∀ (i : Nat) (u : V), vs[i]? = some u → ∃ d, ds[i]? = some d ∧ RRep K H2 B (ptM m) d u noP := by
  cases m with
  | len => cases hm
  | io b => cases hm
  | bx => cases hm
  | bio a c => cases hm
  | bc c => cases hm
  | sta =>
    cases h with
    | lst ha hb =>
      refine ⟨_, _, rfl, hb.length.symm, fun H2 k => (Rdr.le.L (rdA_keep (r.kpB k)) _ _ ha).1, fun H2 k i u hu => ?_⟩
      obtain ⟨d, hd, rd⟩ := hb.getV hu
      exact ⟨d, hd, Rep.mono (rdA_keep (r.kpB k)) rd⟩
  | frz =>
    cases h with
    | lst ha hb =>
      refine ⟨_, _, rfl, hb.length.symm, fun H2 k => LstF.sq (Rdr.le.L (rdF_keep (r.kpF k)) _ _ ha), fun H2 k i u hu => ?_⟩
      obtain ⟨d, hd, rd⟩ := hb.getV hu
      exact ⟨d, hd, Rep.mono (rdF_keep (r.kpF k)) rd⟩
  | own =>
    obtain ⟨a, vs, rfl, q, hl, hv⟩ := h
    refine ⟨a, vs, rfl, hv.length.symm, fun H2 k => .inl (.inl (k.keep _ _ hl fun _ => hp a q)), fun H2 k i u hu => ?_⟩
    obtain ⟨d, hd, rd⟩ := hv.getV hu
    exact ⟨d, hd, Rep.mono (rdF_keep (r.kpF k)) rd⟩
theorem RRep.stayT {K : PySem.W.Frag} {B : Addr → Prop} {H : Hp} {σ : L2.St} {δ : Env} {M : MEnv} {o : Fp} {m : Md} {ds : List D} {v : V} {p : Addr → Prop} (r : R K B H σ δ M o) (h : RRep K H B m (.tuple ds) v p) (hm : wkM m = true) :
    ∃ a vs, v = .ref a ∧ vs.length = ds.length ∧ (∀ H2, Kp true o H H2 → SqT K H2 a vs) ∧ ∀ H2, Kp true o H H2 → ∀ (i : Nat) (u : V), vs[i]? = some u → ∃ d, ds[i]? = some d ∧ RRep K H2 B (ptM m) d u noP := by
  cases m with
  | len => cases hm
  | io b => cases hm
  | bx => cases hm
  | bio a c => cases hm
  | bc c => cases hm
  | sta =>
    cases h with
    | tup ha hb =>
      refine ⟨_, _, rfl, hb.length.symm, fun H2 k => SqT.keep (TupF.sq ha) (r.kpF k _), fun H2 k i u hu => ?_⟩
      obtain ⟨d, hd, rd⟩ := hb.getV hu
      exact ⟨d, hd, Rep.mono (rdA_keep (r.kpB k)) rd⟩
  | frz =>
    cases h with
    | tup ha hb =>
      refine ⟨_, _, rfl, hb.length.symm, fun H2 k => SqT.keep (TupF.sq ha) (r.kpF k _), fun H2 k i u hu => ?_⟩
      obtain ⟨d, hd, rd⟩ := hb.getV hu
      exact ⟨d, hd, Rep.mono (rdF_keep (r.kpF k)) rd⟩
  | own =>
    cases (show Rep (rdF K H) (.tuple ds) v from h) with
    | tup ha hb =>
      refine ⟨_, _, rfl, hb.length.symm, fun H2 k => SqT.keep (TupF.sq ha) (r.kpF k _), fun H2 k i u hu => ?_⟩
      obtain ⟨d, hd, rd⟩ := hb.getV hu
      exact ⟨d, hd, Rep.mono (rdF_keep (r.kpF k)) rd⟩
/-- the entries of a dict that is held for ever -/
theorem kvV {r : Rdr} : ∀ {kvs : List (D × D)} {xs : List (V × Int × V)} {i : Nat} {y : V × Int × V}, RepKv r kvs xs → xs[i]? = some y → ∃ p, kvs[i]? = some p ∧ Rep r p.1 y.1 ∧ Rep r p.2 y.2.2
  | _, _, _, _, .nil, e => by simp at e
  | _, _, 0, _, .cons a b c, e => by simp at e; subst e; exact ⟨_, rfl, a, b⟩
  | _, _, i + 1, y, .cons a b c, e => by
    obtain ⟨p, h1, h2⟩ := kvV (i := i) (y := y) c (by simpa using e)
    exact ⟨p, by simpa using h1, h2⟩
theorem RRep.stayD {K : PySem.W.Frag} {B : Addr → Prop} {H : Hp} {σ : L2.St} {δ : Env} {M : MEnv} {o : Fp} {kvs : List (D × D)} {v : V} {p : Addr → Prop} (r : R K B H σ δ M o) (h : RRep K H B .frz (.dict kvs) v p) :
    ∃ a od xs, v = .ref a ∧ xs.length = kvs.length ∧ kvs.length ≤ sizeLine ∧ (∀ H2, Kp true o H H2 → FzD K H2 a od xs) ∧ ∀ H2, Kp true o H H2 → ∀ (i : Nat) (y : V × Int × V), xs[i]? = some y → ∃ p, kvs[i]? = some p ∧ Rep (rdF K H2) p.1 y.1 ∧ Rep (rdF K H2) p.2 y.2.2 := by
  cases h with
  | @dic a xs _ ha hb ok =>
    obtain ⟨od, ha⟩ := ha
    refine ⟨a, od, xs, rfl, hb.length.symm, ok.size, fun H2 k => ha.imp (fun ha => r.kpF k _ _ ha fun z => z) id, fun H2 k i y hy => ?_⟩
    obtain ⟨p, hp, r1, r2⟩ := kvV hb hy
    exact ⟨p, hp, Rep.mono (rdF_keep (r.kpF k)) r1, Rep.mono (rdF_keep (r.kpF k)) r2⟩
theorem di_seq (he : DE X B M w e f .frz) : DI X B M w tg e (seqI f) .frz := by
  have hm : wkM .frz = true := rfl
  refine ⟨fun pins s σ H Rr I h => ?_⟩
  obtain ⟨δ, o, ds, δ', hR, hf, k⟩ := h
  obtain ⟨⟨d, δ1⟩, h1, hf⟩ := Option.bind_eq_some_iff.mp hf
  obtain ⟨ds', h2, hf⟩ := Option.bind_eq_some_iff.mp hf
  cases hf
  cases d with
  | list xs =>
    cases h2
    refine (pi_list (tg := tg) (PE.sz he)).run pins s σ H Rr I ⟨δ, o, _, _, hR, h1, fun v H1 o1 p1 k1 R1 s1 r1 f1 c1 sz => ?_⟩
    obtain ⟨a, vs, rfl, hl, hG, hY⟩ := RRep.stay R1 r1 (fun a z => (f1 a z).2) hm
    have hG1 := hG H1 (Kp.refl _ _ _)
    refine ⟨a, rfl, ⟨vs, hG1⟩, k _ H1 o1 (fun H => SqL X.K H a vs) (YAt vs) k1 R1 s1 (by rw [← hl]; exact sz _ _ (.inl hG1)) (by rw [← hl]; exact walk_list) hG fun i H2 x H3 k2 y => ?_⟩
    obtain ⟨rfl, hx⟩ := y
    obtain ⟨d, hd, rd⟩ := hY H3 k2 i x hx
    exact ⟨d, hd, Ext.refl _, rd⟩
  | tuple xs =>
    cases h2
    refine (pi_tup (tg := tg) (PE.sz he)).run pins s σ H Rr I ⟨δ, o, _, _, hR, h1, fun v H1 o1 p1 k1 R1 s1 r1 f1 c1 sz => ?_⟩
    obtain ⟨a, vs, rfl, hl, hG, hY⟩ := RRep.stayT R1 r1 hm
    have hG1 := hG H1 (Kp.refl _ _ _)
    refine ⟨a, rfl, ⟨vs, hG1⟩, k _ H1 o1 (fun H => SqT X.K H a vs) (YAt vs) k1 R1 s1 (by rw [← hl]; exact sz _ _ (.inr hG1)) (by rw [← hl]; exact walk_tup) hG fun i H2 x H3 k2 y => ?_⟩
    obtain ⟨rfl, hx⟩ := y
    obtain ⟨d, hd, rd⟩ := hY H3 k2 i x hx
    exact ⟨d, hd, Ext.refl _, rd⟩
  | str x =>
    simp only [itemsD] at h2
    split at h2
    · rename_i hz
      cases h2
      refine (pi_str (tg := tg) he).run pins s σ H Rr I ⟨δ, o, _, _, hR, h1, fun v H1 o1 p1 k1 R1 s1 r1 f1 c1 => ?_⟩
      cases (show Rep (rdL X.K H1) (.str x) v from r1.lent)
      have hlen : (chars x).length = x.cps.size := by unfold chars; rw [List.length_map, Array.length_toList]
      refine ⟨x, rfl, k _ H1 o1 (fun _ => True) _ k1 R1 s1 (by rw [hlen]; exact hz) (by rw [hlen]; exact walk_str) (fun _ _ => trivial) fun i H2 u H3 k2 y => ?_⟩
      obtain ⟨rfl, c, hc, rfl⟩ := y
      refine ⟨.str ⟨#[c]⟩, ?_, Ext.refl _, RRep.flat (fun _ => .str _) (fun _ z => nomatch z) (fun _ z => nomatch z) (fun _ z => nomatch z) (fun z => nomatch z) (fun _ _ z => nomatch z) (fun _ z => nomatch z)⟩
      unfold chars
      rw [List.getElem?_map, Array.getElem?_toList, hc]
      rfl
    · cases h2
  | dict kvs =>
    cases h2
    refine (pi_kX (tg := tg) he).run pins s σ H Rr I ⟨δ, o, _, _, hR, h1, fun v H1 o1 p1 k1 R1 s1 r1 f1 c1 => ?_⟩
    obtain ⟨a, od, xs, rfl, hl, hz, hG, hY⟩ := RRep.stayD R1 r1
    have hG1 := hG H1 (Kp.refl _ _ _)
    have el : (kvs.map (·.1)).length = xs.length := by rw [List.length_map, hl]
    refine ⟨a, od, xs, rfl, hG1, k _ H1 o1 (fun H => FzD X.K H a od xs) (YAt (xs.map (·.1))) k1 R1 s1 (by rw [List.length_map]; exact hz) (by rw [el]; exact walk_kX) hG fun i H2 x H3 k2 y => ?_⟩
    obtain ⟨rfl, hx⟩ := y
    rw [List.getElem?_map] at hx
    obtain ⟨z, hz, rfl⟩ := Option.map_eq_some_iff.mp hx
    obtain ⟨p, hp, rp, _⟩ := hY H3 k2 i z hz
    exact ⟨p.1, by rw [List.getElem?_map, hp]; rfl, Ext.refl _, rp⟩
  | _ => cases h2

def itI (φ : D → Option (List D)) (f : CE) : CA := fun δ => (f δ).bind fun p => (φ p.1).bind fun ds => some (ds, p.2)
def rgI (lo : Int) (n : Nat) : List D := (List.range n).map fun i => .int (lo + (i : Nat))
def inB (i : Int) : Bool := decide (-(2 ^ 62) ≤ i) && decide (i < 2 ^ 62)
def rg1 : List D → Option (List D)
  | [.int j] => if inB j = true ∧ j.toNat ≤ sizeLine then some (rgI 0 j.toNat) else none
  | _ => none
def rgV (φ : List D → Option (List D)) (f : CA) : CA := fun δ => (f δ).bind fun p => (φ p.1).bind fun ds => some (ds, p.2)
theorem rgI_length (lo : Int) (n : Nat) : (rgI lo n).length = n := by unfold rgI; rw [List.length_map, List.length_range]
theorem rgI_get (lo : Int) (n i : Nat) (h : i < n) : (rgI lo n)[i]? = some (.int (lo + (i : Nat))) := by
  unfold rgI
  rw [List.getElem?_map, List.getElem?_range h]
  rfl
theorem walk_rgI {lo : Int} {n : Nat} : L2.Walk (Itr lo n) n (fun _ => True) (fun i H x H' => i < n ∧ H' = H ∧ x = .int (lo + (i : Nat))) :=
  walk_range.mono (fun _ _ => trivial) fun i H x H' hi _ y => ⟨hi, y.1, y.2⟩
theorem rg1_inv {as ds : List D} (h : rg1 as = some ds) : ∃ j : Int, as = [.int j] ∧ (-(2 ^ 62) ≤ j ∧ j < 2 ^ 62) ∧ j.toNat ≤ sizeLine ∧ ds = rgI 0 j.toNat := by
  unfold rg1 at h
  split at h
  · rename_i j
    split at h
    · rename_i hc
      cases h
      simp only [inB, Bool.and_eq_true, decide_eq_true_eq] at hc
      exact ⟨j, rfl, hc.1, hc.2, rfl⟩
    · cases h
  · cases h
theorem di_range1 {a : Expr} {fa : CA} {ms : List Md} {p : Pos} (hg : Gl X "range") (hm : X.mg "range" = none) (ha : DA X B M w [a] fa ms) (hs : starEach [a] X.env = [(false, eval a X.env)]) : DI X B M w tg (.Call (.Name "range" p) [a] [] pos) (rgV rg1 fa) .frz :=
  PI.mono (pi_range1 hg hm ha hs) fun σ H Rr h => by
    obtain ⟨δ, o, ds, δ', hR, hf, k⟩ := h
    obtain ⟨⟨as, δ1⟩, h1, hf⟩ := Option.bind_eq_some_iff.mp hf
    obtain ⟨ds', h2, hf⟩ := Option.bind_eq_some_iff.mp hf
    cases hf
    refine ⟨δ, o, as, _, hR, h1, fun vs H1 o1 k1 R1 s1 a1 => ?_⟩
    have al := a1.lent
    obtain ⟨j, rfl, hb, hz, rfl⟩ := rg1_inv h2
    cases al with
    | cons rj rn =>
      cases rn
      cases rj
      refine ⟨j, rfl, hb.1, hb.2, k _ H1 o1 _ _ k1 R1 s1 (by rw [rgI_length]; exact hz) (by rw [rgI_length]; exact walk_rgI) (fun _ _ => trivial) fun i H2 x H3 k2 y => ?_⟩
      obtain ⟨hi, rfl, rfl⟩ := y
      exact ⟨_, rgI_get _ _ _ hi, Ext.refl _, .int _⟩
def forL (t : CG) (g : CS) : List D → CS
  | [] => skip
  | d :: ds => fun δ => (t d δ).bind fun δ1 => (g δ1).bind fun fl => match fl with
      | .nx δ' => forL t g ds δ'
      | .ct δ' => forL t g ds δ'
      | .bk δ' => some (.nx δ')
      | .rt d δ' => some (.rt d δ')
def forS (f : CA) (t : CG) (g : CS) : CS := fun δ => (f δ).bind fun p => forL t g p.1 p.2
theorem ds_for {fa : CA} {t : CG} {ss : List Nat} (hp : PassesOwn (model X.prog X.w) X.A X.env X.xe) (hc : X.calm = true) (hi : DI X B M w tg iter fa mi) (hg : DG X B M mi tg t M1 ss) (hb : DSs X B (S.loop M) M1 body g M)
    (hs : ∀ x, foldedSetIterable iter X.env x = pure x) : DS X B S M (.For tg iter body [] pos) (forS fa t g) M := PS.mono (ps_for hp hc hi hg hb hs) fun D' σ H q => by
  obtain ⟨δ, o, fl, hR, hf, k⟩ := q
  obtain ⟨⟨ds, δ1⟩, h1, hf⟩ := Option.bind_eq_some_iff.mp hf
  refine ⟨δ, o, ds, δ1, hR, h1, fun J H1 o1 G Y k1 R1 s1 hz W hG hY => ?_⟩
  have k := k.mono (k1.up fun _ => rfl) s1
  refine for_it W (fun i σ H => ∃ δ o, R X.K B H σ δ M o ∧ Kp true o1 H1 H ∧ Sub o1 H1 o ∧ forL t g (ds.drop i) δ = some fl) ⟨δ1, o1, R1, Kp.refl _ _ _, Sub.refl _ _, hf⟩ (fun i σ H _ ⟨_, _, _, kk, _⟩ => hG H kk) ?_ ?_
  · rintro i x σ2 H2 H3 hi ⟨δ2, o2, R2, k2, s2, h2⟩ y
    obtain ⟨d, hd, ext, rd⟩ := hY i H2 x H3 k2 y
    have hdr : ds.drop i = d :: ds.drop (i + 1) := by
      rw [List.drop_eq_getElem_cons hi]
      rw [List.getElem?_eq_getElem hi] at hd
      cases hd
      rfl
    rw [hdr] at h2
    obtain ⟨δ3, h3, h2⟩ := Option.bind_eq_some_iff.mp h2
    obtain ⟨fl1, h4, h2⟩ := Option.bind_eq_some_iff.mp h2
    refine ⟨δ2, o2, d, noP, δ3, R2.keep ext, rd, fun _ z => z.elim, fun _ z => z.elim, h3, fun σ4 o4 R4 s4 _ => ⟨δ3, o4, fl1, R4, h4, ?_⟩⟩
    have k3 : Kp true o1 H1 H3 := k2.trans s2 (Kp.all ext)
    have s3 : Sub o1 H1 o4 := fun a z => by
      rcases s4 a z with q | q
      · exact s2 a q
      · exact q.elim
    cases fl1 with
    | nx δ' => exact fun σ' H' o' k' s' r => ⟨δ', o', r, k3.trans s3 k', s3.trans k3 s', h2⟩
    | ct δ' => exact fun σ' H' o' k' s' r => ⟨δ', o', r, k3.trans s3 k', s3.trans k3 s', h2⟩
    | bk δ' =>
      cases h2
      exact fun σ' H' o' k' s' r => k σ' H' o' (k3.trans s3 k') (s3.trans k3 s') r
    | rt d δ' =>
      cases h2
      exact k.mono k3 s3
  · rintro σ2 H2 ⟨δ2, o2, R2, k2, s2, h2⟩
    rw [List.drop_length] at h2
    cases h2
    exact k σ2 H2 o2 k2 s2 R2
end
end Dn
namespace Dn
open PySem PySem.Spec PyProof.Rows L2
variable [Wd]

def wipeD (δ : Env) : List Nat → Env
  | [] => δ
  | v :: vs => (wipeD δ vs).set v none
def wipeM (M : MEnv) : List Nat → MEnv
  | [] => M
  | v :: vs => (wipeM M vs).set v none
/-- the slots of vs as δ₀ has them -/
def backD (δ₀ δ : Env) : List Nat → Env
  | [] => δ
  | v :: vs => (backD δ₀ δ vs).set v (δ₀[v]?.join)
theorem wipeD_length (δ : Env) : ∀ vs, (wipeD δ vs).length = δ.length
  | [] => rfl
  | v :: vs => by unfold wipeD; rw [List.length_set, wipeD_length δ vs]
theorem backD_length (δ₀ δ : Env) : ∀ vs, (backD δ₀ δ vs).length = δ.length
  | [] => rfl
  | v :: vs => by unfold backD; rw [List.length_set, backD_length δ₀ δ vs]
theorem wipeD_some {δ : Env} {i : Nat} {d : D} : ∀ {vs : List Nat}, (wipeD δ vs)[i]? = some (some d) → δ[i]? = some (some d) ∧ i ∉ vs
  | [], h => ⟨h, by simp⟩
  | v :: vs, h => by
    unfold wipeD at h
    by_cases hi : v = i
    · subst hi
      by_cases hv : v < (wipeD δ vs).length
      · rw [List.getElem?_set_self hv] at h; cases h
      · rw [List.getElem?_eq_none (by simpa using hv)] at h; cases h
    · rw [List.getElem?_set_ne hi] at h
      obtain ⟨h1, h2⟩ := wipeD_some h
      exact ⟨h1, by simp only [List.mem_cons, not_or]; exact ⟨fun e => hi e.symm, h2⟩⟩
theorem wipeM_some {M : MEnv} {i : Nat} {m : Md} : ∀ {vs : List Nat}, (wipeM M vs)[i]? = some (some m) → M[i]? = some (some m) ∧ i ∉ vs
  | [], h => ⟨h, by simp⟩
  | v :: vs, h => by
    unfold wipeM at h
    by_cases hi : v = i
    · subst hi
      by_cases hv : v < (wipeM M vs).length
      · rw [List.getElem?_set_self hv] at h; cases h
      · rw [List.getElem?_eq_none (by simpa using hv)] at h; cases h
    · rw [List.getElem?_set_ne hi] at h
      obtain ⟨h1, h2⟩ := wipeM_some h
      exact ⟨h1, by simp only [List.mem_cons, not_or]; exact ⟨fun e => hi e.symm, h2⟩⟩
theorem backD_out {δ₀ δ : Env} {i : Nat} : ∀ {vs : List Nat}, i ∉ vs → (backD δ₀ δ vs)[i]? = δ[i]?
  | [], _ => rfl
  | v :: vs, h => by
    have h1 : v ≠ i := fun e => h (by rw [e]; exact List.mem_cons_self)
    unfold backD
    rw [List.getElem?_set_ne h1]
    exact backD_out fun m => h (List.mem_cons_of_mem _ m)
theorem backD_in {δ₀ δ : Env} {i : Nat} {d : D} : ∀ {vs : List Nat}, i ∈ vs → (backD δ₀ δ vs)[i]? = some (some d) → δ₀[i]? = some (some d)
  | [], h, _ => by simp at h
  | v :: vs, h, e => by
    unfold backD at e
    by_cases hi : v = i
    · subst hi
      by_cases hv : v < (backD δ₀ δ vs).length
      · rw [List.getElem?_set_self hv] at e
        cases q : δ₀[v]? with
        | none => rw [q] at e; simp at e
        | some x => rw [q] at e; simp at e; rw [e]
      · rw [List.getElem?_eq_none (by simpa using hv)] at e; cases e
    · rw [List.getElem?_set_ne hi] at e
      refine backD_in (vs := vs) ?_ e
      rcases List.mem_cons.mp h with q | q
      · exact absurd q.symm hi
      · exact q
theorem wipeD_out {δ : Env} {i : Nat} : ∀ {vs : List Nat}, i ∉ vs → (wipeD δ vs)[i]? = δ[i]?
  | [], _ => rfl
  | v :: vs, h => by
    have h1 : v ≠ i := fun e => h (by rw [e]; exact List.mem_cons_self)
    unfold wipeD
    rw [List.getElem?_set_ne h1]
    exact wipeD_out fun m => h (List.mem_cons_of_mem _ m)
theorem wipe_in {σ : L2.St} {i : Nat} : ∀ {vs : List Nat}, i ∈ vs → i < σ.length → (wipe σ vs)[i]? = some none
  | [], h, _ => by simp at h
  | v :: vs, h, hl => by
    unfold wipe
    by_cases hi : v = i
    · subst hi
      exact List.getElem?_set_self (by rw [wipe_length]; exact hl)
    · rw [List.getElem?_set_ne hi]
      refine wipe_in ?_ hl
      rcases List.mem_cons.mp h with q | q
      · exact absurd q.symm hi
      · exact q
theorem wipe_off {σ σ' : L2.St} {ss vs : List Nat} (h : Off ss σ σ') (hs : ∀ j ∈ ss, j ∈ vs) : wipe σ' vs = wipe σ vs := by
  apply List.ext_getElem?
  intro i
  by_cases hi : i ∈ vs
  · by_cases hl : i < σ.length
    · rw [wipe_in hi hl, wipe_in hi (by rw [h.1]; exact hl)]
    · rw [List.getElem?_eq_none (by rw [wipe_length, h.1]; omega), List.getElem?_eq_none (by rw [wipe_length]; omega)]
  · rw [wipe_out hi, wipe_out hi]
    exact h.2 i fun z => hi (hs i z)
theorem wipe_wipe {σ : L2.St} {vs : List Nat} : wipe (wipe σ vs) vs = wipe σ vs := by
  apply List.ext_getElem?
  intro i
  by_cases hi : i ∈ vs
  · by_cases hl : i < σ.length
    · rw [wipe_in hi hl, wipe_in hi (by rw [wipe_length]; exact hl)]
    · rw [List.getElem?_eq_none (by rw [wipe_length, wipe_length]; omega), List.getElem?_eq_none (by rw [wipe_length]; omega)]
  · rw [wipe_out hi]

section
variable {K : PySem.W.Frag} {B : Addr → Prop} {H H' : Hp} {σ : L2.St} {δ δ₀ : Env} {M : MEnv} {o o₀ : Fp} {vs : List Nat}
/-- the frame at a turn's start: the own slots are empty -/
theorem R.wipe (r : R K B H σ δ M o) : R K B H (wipe σ vs) (wipeD δ vs) (wipeM M vs) (cutO o (wipeM M vs)) := by
  refine ⟨by rw [wipe_length, wipeD_length]; exact r.len, fun i j a h1 h2 => r.dis i j a h1.2 h2.2, fun i a h => r.cell i a h.2, fun a z => r.sep a (cutO_le z), r.dom, fun i m d h1 h2 => ?_⟩
  obtain ⟨h3, hi⟩ := wipeM_some h1
  obtain ⟨h4, _⟩ := wipeD_some h2
  obtain ⟨v, ev, q⟩ := r.at_ i m d h3 h4
  refine ⟨v, by rw [wipe_out hi]; exact ev, ?_⟩
  cases m with
  | own => exact Own.sup q fun a z => ⟨⟨_, h1, rfl⟩, z⟩
  | io b => exact ⟨Own.sup q.1 fun a z => ⟨⟨_, h1, rfl⟩, z⟩, q.2⟩
  | bx =>
    obtain ⟨a, c, z⟩ := q
    exact ⟨a, c, z.sup fun a z => ⟨⟨_, h1, rfl⟩, z⟩⟩
  | bio a c => exact BoxAt.sup q fun a z => ⟨⟨_, h1, rfl⟩, z⟩
  | bc c => exact q
  | len => exact q.elim
  | sta => exact q
  | frz => exact q
/-- the frame behind the block: the own slots are what they were -/
theorem R.back (r : R K B H (L2.wipe σ vs) (wipeD δ vs) (wipeM M vs) o) (r₀ : R K B H' σ δ₀ M o₀) {w : Bool} (k : Kp w o₀ H' H) (hM : ∀ i ∈ vs, ∀ m, M[i]? = some (some m) → m = .frz ∨ m = .sta) : R K B H σ (backD δ₀ δ vs) M (cutO o (wipeM M vs)) := by
  refine ⟨by rw [backD_length, ← wipeD_length δ vs, ← r.len, wipe_length], fun i j a h1 h2 => r.dis i j a h1.2 h2.2, fun i a h => r.cell i a h.2, fun a z => r.sep a (cutO_le z), r.dom, fun i m d h1 h2 => ?_⟩
  by_cases hi : i ∈ vs
  · have h3 := backD_in hi h2
    obtain ⟨v, ev, q⟩ := r₀.at_ i m d h1 h3
    refine ⟨v, ev, ?_⟩
    rcases hM i hi m h1 with rfl | rfl
    · exact Rep.mono (rdF_keep (r₀.kpF k)) q
    · exact Rep.mono (rdA_keep (r₀.kpB k)) q
  · rw [backD_out hi] at h2
    have hM' : (wipeM M vs)[i]? = some (some m) := by
      have : ∀ {vs : List Nat}, i ∉ vs → (wipeM M vs)[i]? = M[i]? := by
        intro vs
        induction vs with
        | nil => intro _; rfl
        | cons v vs ih =>
          intro h
          have h1 : v ≠ i := fun e => h (by rw [e]; exact List.mem_cons_self)
          unfold wipeM
          rw [List.getElem?_set_ne h1]
          exact ih fun m => h (List.mem_cons_of_mem _ m)
      rw [this hi]
      exact h1
    obtain ⟨v, ev, q⟩ := r.at_ i m d hM' (by rw [wipeD_out hi]; exact h2)
    rw [wipe_out hi] at ev
    refine ⟨v, ev, ?_⟩
    cases m with
    | own => exact Own.sup q fun a z => ⟨⟨_, hM', rfl⟩, z⟩
    | io b => exact ⟨Own.sup q.1 fun a z => ⟨⟨_, hM', rfl⟩, z⟩, q.2⟩
    | bx =>
      obtain ⟨a, c, z⟩ := q
      exact ⟨a, c, z.sup fun a z => ⟨⟨_, hM', rfl⟩, z⟩⟩
    | bio a c => exact BoxAt.sup q fun a z => ⟨⟨_, hM', rfl⟩, z⟩
    | bc c => exact q
    | len => exact q.elim
    | sta => exact q
    | frz => exact q
/-- a thing that is no slot's and nobody's is written -/
theorem R.upd (r : R K B H σ δ M o) {a : Addr} {u u' : HO} (ha : H a = some u) (mu : Mut (some u)) (hn : ¬ o.any a) (hB : ¬ B a) : R K B (L2.upd H a u') σ δ M o := by
  have kk : ∀ b v, H b = some v → (b ≠ a) → L2.upd H a u' b = some v := fun b v e n => by rw [upd_ne n]; exact e
  have kF : ∀ b v, H b = some v → ¬ Mut (some v) → L2.upd H a u' b = some v := fun b v e n => kk b v e fun z => by
    subst z
    rw [ha] at e
    cases e
    exact n mu
  refine ⟨r.len, r.dis, fun i b h => ?_, r.sep, fun b h => ?_, fun i m d h1 h2 => ?_⟩
  · obtain ⟨v, e, q⟩ := r.cell i b h
    exact ⟨v, kk b v e fun z => hn ⟨i, z ▸ h⟩, q⟩
  · obtain ⟨v, e⟩ := r.dom b h
    exact ⟨v, kk b v e fun z => hB (z ▸ h)⟩
  · obtain ⟨v, ev, q⟩ := r.at_ i m d h1 h2
    have kO : ∀ b v, H b = some v → (o i b ∨ ¬ Mut (some v)) → L2.upd H a u' b = some v := fun b v e n => by
      rcases n with n | n
      · exact kk b v e fun z => hn ⟨i, z ▸ n⟩
      · exact kF b v e n
    refine ⟨v, ev, ?_⟩
    cases m with
    | own => exact Own.keep q kO
    | io b => exact ⟨Own.keep q.1 kO, q.2⟩
    | bx =>
      obtain ⟨a, c, z⟩ := q
      exact ⟨a, c, z.keep kO⟩
    | bio a c => exact BoxAt.keep q kO
    | bc c => exact q
    | sta => exact Rep.mono (rdA_keep fun b v e n => by
        rcases n with n | n
        · exact kk b v e fun z => hB (z ▸ n)
        · exact kF b v e n) q
    | frz => exact Rep.mono (rdF_keep kF) q
    | len => exact q.elim
end

def lcL (t : CG) (own : List Nat) (c : CT) (f : CE) : List D → Env → Option (List D × Env)
  | [], δ => some ([], δ)
  | d :: ds, δ => (t d (wipeD δ own)).bind fun δ1 => (c δ1).bind fun p => if p.1 = true then (f p.2).bind fun q => (lcL t own c f ds q.2).bind fun r => some (q.1 :: r.1, r.2) else lcL t own c f ds p.2
def lcV (fa : CA) (t : CG) (own : List Nat) (c : CT) (f : CE) : CE := fun δ => (fa δ).bind fun p => (lcL t own c f p.1 p.2).bind fun r => some (.list r.1, backD p.2 r.2 own)
def yesT : CT := fun δ => some (true, δ)
abbrev DTs (X : Cx) (B : Addr → Prop) (M : MEnv) (w : Bool) (es : List Expr) (f : CT) : Prop := PTs X es (TT' X.K B M w f)
theorem PTs.mono {X : Cx} {e : List Expr} {t t' : TT} (h : PTs X e t) (i : ∀ σ H Q, t' σ H Q → t σ H Q) : PTs X e t' := ⟨fun pins s σ H Q I q => h.run pins s σ H Q I (i σ H Q q)⟩
theorem dts_nil {X : Cx} {B : Addr → Prop} {M : MEnv} : DTs X B M false [] yesT := PTs.mono pts_nil fun σ H Q q => by
  obtain ⟨δ, o, b, δ', hR, hf, k⟩ := q
  cases hf
  exact k H o (Kp.refl _ _ _) hR (Sub.refl _ _)
def ownOk (M : MEnv) (vs : List Nat) : Bool := vs.all fun i => match M[i]? with
  | some (some .frz) => true
  | some (some .sta) => true
  | some none => true
  | _ => false
theorem ownOk_of {M : MEnv} {vs : List Nat} (h : ownOk M vs = true) : ∀ i ∈ vs, ∀ m, M[i]? = some (some m) → m = .frz ∨ m = .sta := fun i hi m e => by
  have q := List.all_eq_true.mp h i hi
  rw [e] at q
  cases m with
  | frz => exact .inl rfl
  | sta => exact .inr rfl
  | _ => cases q
section
variable {X : Cx} {B : Addr → Prop} {S : Sc} {M M1 M2 M' N : MEnv} {elt tg iter : Expr} {ifs : List Expr} {scope : Scope} {f : CE} {g h : CS} {m mi : Md} {w wc wi we : Bool} {pos : Pos}
theorem tl_lc {K : PySem.W.Frag} {fa : CA} {t : CG} {c : CT} {own ss : List Nat} (hM : ownOk M own = true) (hss : ∀ j ∈ ss, j ∈ own) (hwk : wipeM M1 own = wipeM M own) (σ : L2.St) (H : Hp) (Q : VK)
    (q : TD K B M (wi || (wc || we)) (lcV fa t own c f) .own σ H Q) : tLc (TI' K B M wi fa mi) (TG' K B (wipeM M own) mi t M1 ss) (TT' K B M1 wc c) (TD K B M1 we f .frz) own σ H Q := by
  obtain ⟨δ, o, d, δ', hR, hf, k⟩ := q
  obtain ⟨⟨ds, δ1⟩, h1, hf⟩ := Option.bind_eq_some_iff.mp hf
  obtain ⟨⟨rs, δ2⟩, h2, hf⟩ := Option.bind_eq_some_iff.mp hf
  cases hf
  refine ⟨δ, o, ds, δ1, hR, h1, fun J H1 o1 G Y k1 R1 s1 hz W hG hY D hD => ?_⟩
  have nB : ¬ B D := fun z => by
    obtain ⟨u, e⟩ := R1.dom D z
    rw [hD] at e
    cases e
  -- the invariant: at turn i
  refine lc_it W (fun i H2 => ∃ δ3 o2 acc rs1 rs2, R K B H2 (L2.wipe σ own) (wipeD δ3 own) (wipeM M own) o2 ∧ Kp (wc || we) o1 H1 H2 ∧ Sub o1 H1 o2 ∧ ¬ o2.any D ∧ H2 D = some (.lst acc) ∧ RepAll (rdF K H2) rs1 acc ∧ acc.length ≤ i ∧ lcL t own c f (ds.drop i) δ3 = some (rs2, δ2) ∧ rs = rs1 ++ rs2)
    ?_ (fun i H2 _ ⟨_, _, _, _, _, _, kk, _⟩ => hG H2 (kk.up fun _ => rfl)) ?_ ?_
  · have n1 : ¬ (cutO o1 (wipeM M own)).any D := fun z => R1.fresh hD (cutO_le z)
    exact ⟨δ1, _, [], [], rs, (R1.keep (Ext.new hD)).wipe, Kp.all (Ext.new hD), fun a z => .inl (cutO_le z), n1, upd_same, .nil, Nat.le_refl _, h2, rfl⟩
  · rintro i x H2 H3 hi ⟨δ3, o2, acc, rs1, rs2, R2, k2, s2, nD, eD, ra, la, h3, e3⟩ y
    obtain ⟨d, hd, ext, rd⟩ := hY i H2 x H3 (k2.up fun _ => rfl) y
    have hdr : ds.drop i = d :: ds.drop (i + 1) := by
      rw [List.drop_eq_getElem_cons hi]
      rw [List.getElem?_eq_getElem hi] at hd
      cases hd
      rfl
    rw [hdr] at h3
    obtain ⟨δ4, h4, h3⟩ := Option.bind_eq_some_iff.mp h3
    obtain ⟨⟨b, δ5⟩, h5, h3⟩ := Option.bind_eq_some_iff.mp h3
    have eD3 : H3 D = some (.lst acc) := ext _ _ eD
    refine ⟨wipeD δ3 own, o2, d, noP, δ4, R2.keep ext, rd, fun _ z => z.elim, fun _ z => z.elim, h4, fun σ4 o4 R4 s4 off => ⟨?_, ?_⟩⟩
    · rw [wipe_off off hss, wipe_wipe]
    have eσ : L2.wipe σ4 own = L2.wipe σ own := by rw [wipe_off off hss, wipe_wipe]
    have s4' : ∀ a, o4.any a → o2.any a := fun a z => (s4 a z).elim id fun q => q.elim
    have k3 : Kp (wc || we) o1 H1 H3 := k2.trans s2 (Kp.all ext)
    refine ⟨δ4, o4, b, δ5, R4, h5, fun H5 o5 k5 R5 s5 => ?_⟩
    have nD5 : ¬ o5.any D := fun z => by
      rcases s5 D z with q | q
      · exact nD (s4' D q)
      · rw [eD3] at q; cases q
    have eD5 : H5 D = some (.lst acc) := k5.keep _ _ eD3 fun _ z => nD (s4' D z)
    have s14 : Sub o1 H1 o4 := fun a z => s2 a (s4' a z)
    have k15 : Kp (wc || we) o1 H1 H5 := k3.trans s14 (k5.up fun z => by rw [z]; rfl)
    have s15 : Sub o1 H1 o5 := s14.trans k3 s5
    have kF35 : ∀ a u, H3 a = some u → ¬ Mut (some u) → H5 a = some u := R4.kpF k5
    have ra3 : RepAll (rdF K H3) rs1 acc := RepAll.mono (rdF_keep fun a u e _ => ext a u e) ra
    have ra5 : RepAll (rdF K H5) rs1 acc := RepAll.mono (rdF_keep kF35) ra3
    cases b with
    | false =>
      refine iteF ?_
      have R5' := R5.wipe (vs := own)
      rw [eσ, hwk] at R5'
      exact ⟨δ5, _, acc, rs1, rs2, R5', k15, fun a z => s15 a (cutO_le z), fun z => nD5 (cutO_le z), eD5, ra5, Nat.le_succ_of_le la, h3, e3⟩
    | true =>
      refine iteT ?_
      obtain ⟨⟨e, δ6⟩, h6, h3⟩ := Option.bind_eq_some_iff.mp (show ((f δ5).bind _) = _ from h3)
      obtain ⟨⟨rs3, δ7⟩, h7, h3⟩ := Option.bind_eq_some_iff.mp h3
      cases h3
      refine ⟨δ5, o5, e, δ6, R5, h6, fun y H6 o6 p6 k6 R6 s6 r6 f6 c6 => ?_⟩
      have nD6 : ¬ o6.any D := fun z => by
        rcases s6 D z with q | q
        · exact nD5 q
        · rw [eD5] at q; cases q
      have eD6 : H6 D = some (.lst acc) := k6.keep _ _ eD5 fun _ z => nD5 z
      refine ⟨acc, eD6, Nat.lt_of_le_of_lt la (Nat.lt_of_lt_of_le hi hz), ?_⟩
      have R6' := (R6.upd (u' := .lst (acc ++ [y])) eD6 trivial nD6 nB).wipe (vs := own)
      rw [eσ, hwk] at R6'
      have kU : ∀ a u, H6 a = some u → ¬ Mut (some u) → L2.upd H6 D (.lst (acc ++ [y])) a = some u := fun a u e n => by
        rw [upd_ne fun z => by
          subst z
          rw [eD6] at e
          cases e
          exact n trivial]
        exact e
      have k16 : Kp (wc || we) o1 H1 H6 := k15.trans s15 (k6.up fun z => by rw [z]; simp)
      refine ⟨δ6, _, acc ++ [y], rs1 ++ [e], rs3, R6', ⟨fun a u e n => ?_, fun a e => ?_⟩, fun a z => (s15.trans k15 s6) a (cutO_le z), fun z => nD6 (cutO_le z), upd_same, ?_, by rw [List.length_append, List.length_singleton]; omega, h7, by rw [e3, List.append_assoc]; rfl⟩
      · rw [upd_ne fun z => by subst z; rw [hD] at e; cases e]
        exact k16.keep a u e n
      · by_cases z : a = D
        · subst z; exact hD
        · rw [upd_ne z] at e
          exact k16.there a e
      · exact RepAll.append (RepAll.mono (rdF_keep kU) (RepAll.mono (rdF_keep (R5.kpF k6)) ra5)) (.one (Rep.mono (rdF_keep kU) r6))
  · rintro H2 ⟨δ3, o2, acc, rs1, rs2, R2, k2, s2, nD, eD, ra, la, h3, e3⟩
    rw [List.drop_length] at h3
    cases h3
    rw [List.append_nil] at e3
    subst e3
    have kk : Kp (wi || (wc || we)) o H H2 := (k1.up fun z => by rw [z]; rfl).trans s1 (k2.up fun z => by rw [z]; simp)
    have R3 := R2.back R1 k2 (ownOk_of hM)
    refine k (.ref D) H2 _ (fun a => a = D) kk R3 (fun a z => (s1.trans k1 s2) a (cutO_le z)) ⟨D, acc, rfl, rfl, eD, ra⟩ (fun a z => ?_) fun a z => ⟨.lst acc, by rw [z]; exact eD, trivial⟩
    subst z
    exact ⟨k1.there a hD, fun z => nD (cutO_le z)⟩
theorem de_lc {fa : CA} {t : CG} {c : CT} {own : List (Str × Nat)} {ss : List Nat} (hM : ownOk M (own.map (·.2)) = true) (hss : ∀ j ∈ ss, j ∈ own.map (·.2)) (hwk : wipeM M1 (own.map (·.2)) = wipeM M (own.map (·.2))) (hc : X.calm = true) (hN : X.N.Nodup)
    (hi : DI X B M wi tg iter fa mi) (ok : BlkOk X.N X.env.scope scope own)
    (hg : ∀ (s : Shared) (H : Hp) (C : Addr) (cl : List (Str × Addr)) (fp : List Addr), DG (X.blk s H scope (compEnvC scope cl C X.env) fp) B (wipeM M (own.map (·.2))) mi tg t M1 ss)
    (ht : ∀ (s : Shared) (H : Hp) (C : Addr) (cl : List (Str × Addr)) (fp : List Addr), DTs (X.blk s H scope (compEnvC scope cl C X.env) fp) B M1 wc ifs c)
    (he : ∀ (s : Shared) (H : Hp) (C : Addr) (cl : List (Str × Addr)) (fp : List Addr), DE (X.blk s H scope (compEnvC scope cl C X.env) fp) B M1 we elt f .frz) (hs : ∀ x, foldedSetIterable iter X.env x = pure x) :
    DE X B M (wi || (wc || we)) (.ListComp elt [⟨tg, iter, ifs, 0⟩] scope pos) (lcV fa t (own.map (·.2)) c f) .own :=
  PE.mono (pe_lc hc hN hi ok hg ht he hs) fun σ H Q q => tl_lc hM hss hwk σ H Q q
/-- name = [..] on one line, the name a local -/
theorem ds_setLc {fa : CA} {t : CG} {c : CT} {own : List (Str × Nat)} {ss : List Nat} {i : Nat} {y : Str} {py spos : Pos} (hM : ownOk M (own.map (·.2)) = true) (hss : ∀ j ∈ ss, j ∈ own.map (·.2)) (hwk : wipeM M1 (own.map (·.2)) = wipeM M (own.map (·.2))) (hc : X.calm = true) (hN : X.N.Nodup)
    (hy : X.N[i]? = some y) (hyl : X.env.scope.names.lookup y = some .local) (hsw : swapsWith (.ListComp elt [⟨tg, iter, ifs, 0⟩] scope pos) (some (.Name y py)) spos.line X.env = pure true)
    (hi : DI X B M wi tg iter fa mi) (ok : BlkOk X.N X.env.scope scope own)
    (hg : ∀ (s : Shared) (H : Hp) (C : Addr) (cl : List (Str × Addr)) (fp : List Addr), DG (X.blk s H scope (compEnvC scope cl C X.env) fp) B (wipeM M (own.map (·.2))) mi tg t M1 ss)
    (ht : ∀ (s : Shared) (H : Hp) (C : Addr) (cl : List (Str × Addr)) (fp : List Addr), DTs (X.blk s H scope (compEnvC scope cl C X.env) fp) B M1 wc ifs c)
    (he : ∀ (s : Shared) (H : Hp) (C : Addr) (cl : List (Str × Addr)) (fp : List Addr), DE (X.blk s H scope (compEnvC scope cl C X.env) fp) B M1 we elt f .frz) (hs : ∀ x, foldedSetIterable iter X.env x = pure x) :
    DS X B S M (.Assign [.Name y py] (.ListComp elt [⟨tg, iter, ifs, 0⟩] scope pos) spos) (asgS (stS i) (lcV fa t (own.map (·.2)) c f)) (M.set i (some .own)) :=
  PS.mono (ps_setLc hc hN hy hyl hsw hi ok hg ht he hs) fun D' σ H q => by
    have h := ta_asg (w := wi || (wc || we)) (m := .own) (ss := [i]) (K := X.K) D' σ H q
    have hgn : ∀ v σ H Q, TG' X.K B M .own (stS i) (M.set i (some .own)) [i] v σ H Q → gName i v σ H Q := fun v σ H Q q => by
      obtain ⟨δ, o, d, p, δ', hR, r, f, c, ht, k⟩ := q
      unfold stS at ht
      split at ht
      · rename_i hi
        cases ht
        refine k _ _ (hR.set r (fun a z => (f a z).1) c (fun a z => (f a z).2) (by rw [hR.len]; exact hi) rfl) (fun a z => ?_) ⟨List.length_set, fun j hj => ?_⟩
        · rcases setO_any z with z | z
          · exact .inl z
          · exact .inr z
        · exact List.getElem?_set_ne fun e => hj (by rw [e]; exact List.mem_cons_self)
      · cases ht
    exact tl_lc hM hss hwk σ H _ (by
      obtain ⟨δ, o, d, δ', hR, hf, k⟩ := h
      exact ⟨δ, o, d, δ', hR, hf, fun v H' o' p k1 R1 s1 r1 f1 c1 => hgn v σ H' D'.nx (k v H' o' p k1 R1 s1 r1 f1 c1)⟩)
end
end Dn
namespace Dn
open PySem PySem.Spec PyProof.Rows L2
variable [Wd]

section
variable {K : PySem.W.Frag} {B : Addr → Prop} {H H' : Hp} {σ : L2.St} {δ : Env} {M : MEnv} {o : Fp}
/-- the list in a slot of one's own -/
theorem R.ownL (r : R K B H σ δ M o) {i : Nat} {m : Md} {ds : List D} (hM : M[i]? = some (some m)) (hw : m.fl = true) (hd : δ[i]? = some (some (.list ds))) :
    ∃ a vs, σ[i]? = some (some (.ref a)) ∧ o i a ∧ H a = some (.lst vs) ∧ RepAll (rdF K H) ds vs := by
  obtain ⟨v, ev, q⟩ := r.at_ i m _ hM hd
  have q' : Own K H (.list ds) v (o i) := by
    cases m with
    | own => exact q
    | io b => exact q.1
    | _ => cases hw
  obtain ⟨a, vs, rfl, h1, h2, h3⟩ := q'
  exact ⟨a, vs, ev, h1, h2, h3⟩
/-- the thing in a slot of one's own is changed -/
theorem R.wrG (r : R K B H σ δ M o) {i : Nat} {m : Md} {d0 d' : D} {a : Addr} {u0 u' : HO} (hM : M[i]? = some (some m)) (hw : m.fl = true) (hd : δ[i]? = some (some d0)) (hσ : σ[i]? = some (some (.ref a))) (ho : o i a) (hH : H a = some u0) (mu : Mut (some u0)) (mu' : Mut (some u')) (hr : (rdF K H).le (rdF K (L2.upd H a u')) → Own K (L2.upd H a u') d' (.ref a) (o i)) :
    R K B (L2.upd H a u') σ (δ.set i (some d')) M o := by
  have kk : ∀ b v, H b = some v → b ≠ a → L2.upd H a u' b = some v := fun b v e n => by rw [upd_ne n]; exact e
  have kF : ∀ b v, H b = some v → ¬ Mut (some v) → L2.upd H a u' b = some v := fun b v e n => kk b v e fun z => by
    subst z
    rw [hH] at e
    cases e
    exact n mu
  have hi : i < δ.length := (List.getElem?_eq_some_iff.mp hd).1
  refine ⟨by rw [List.length_set]; exact r.len, r.dis, fun j b h => ?_, r.sep, fun b h => ?_, fun j m' d h1 h2 => ?_⟩
  · by_cases e : b = a
    · subst e; exact ⟨_, upd_same, mu'⟩
    · obtain ⟨v, e', q⟩ := r.cell j b h
      exact ⟨v, kk b v e' e, q⟩
  · obtain ⟨v, e⟩ := r.dom b h
    exact ⟨v, kk b v e fun z => r.sep a ⟨i, ho⟩ (z ▸ h)⟩
  · by_cases e : j = i
    · subst e
      rw [List.getElem?_set_self hi] at h2
      cases h2
      rw [hM] at h1
      cases h1
      obtain ⟨v, ev, q⟩ := r.at_ j m _ hM hd
      rw [hσ] at ev
      cases ev
      have q' : Own K (L2.upd H a u') d' (.ref a) (o j) := hr (rdF_keep kF)
      refine ⟨.ref a, hσ, ?_⟩
      cases m with
      | own => exact q'
      | io b => exact ⟨q', q.2⟩
      | _ => cases hw
    · rw [List.getElem?_set_ne (Ne.symm e)] at h2
      obtain ⟨v, ev, q⟩ := r.at_ j m' d h1 h2
      have kO : ∀ b v, H b = some v → (o j b ∨ ¬ Mut (some v)) → L2.upd H a u' b = some v := fun b v e' n => by
        rcases n with n | n
        · exact kk b v e' fun z => e (r.dis j i b n (z ▸ ho))
        · exact kF b v e' n
      refine ⟨v, ev, ?_⟩
      cases m' with
      | own => exact Own.keep q kO
      | io b => exact ⟨Own.keep q.1 kO, q.2⟩
      | bx =>
        obtain ⟨a, c, z⟩ := q
        exact ⟨a, c, z.keep kO⟩
      | bio a c => exact BoxAt.keep q kO
      | bc c => exact q
      | sta => exact Rep.mono (rdA_keep fun b v e' n => by
          rcases n with n | n
          · exact kk b v e' fun z => r.sep a ⟨i, ho⟩ (z ▸ n)
          · exact kF b v e' n) q
      | frz => exact Rep.mono (rdF_keep kF) q
      | len => exact q.elim
theorem R.wr (r : R K B H σ δ M o) {i : Nat} {m : Md} {ds ds' : List D} {a : Addr} {vs vs' : List V} (hM : M[i]? = some (some m)) (hw : m.fl = true) (hd : δ[i]? = some (some (.list ds))) (hσ : σ[i]? = some (some (.ref a))) (ho : o i a) (hH : H a = some (.lst vs)) (hr : RepAll (rdF K H) ds' vs') :
    R K B (L2.upd H a (.lst vs')) σ (δ.set i (some (.list ds'))) M o :=
  r.wrG hM hw hd hσ ho hH trivial trivial fun le => ⟨a, vs', rfl, ho, upd_same, RepAll.mono le hr⟩
/-- the dict in a slot of one's own -/
theorem R.ownD (r : R K B H σ δ M o) {i : Nat} {m : Md} {kvs : List (D × D)} (hM : M[i]? = some (some m)) (hw : m.fl = true) (hd : δ[i]? = some (some (.dict kvs))) :
    ∃ a xs, σ[i]? = some (some (.ref a)) ∧ o i a ∧ H a = some (DicO a xs) ∧ RepKv (rdF K H) kvs xs ∧ DOk kvs := by
  obtain ⟨v, ev, q⟩ := r.at_ i m _ hM hd
  have q' : Own K H (.dict kvs) v (o i) := by
    cases m with
    | own => exact q
    | io b => exact q.1
    | _ => cases hw
  obtain ⟨a, xs, rfl, h1, h2, h3, h4⟩ := q'
  exact ⟨a, xs, ev, h1, h2, h3, h4⟩
theorem Kp.wr {o : Fp} {a : Addr} {u u' : HO} (hn : o.any a) (hH : H a = some u) : Kp true o H (L2.upd H a u') := by
  refine ⟨fun b v e n => ?_, fun b e => ?_⟩
  · rw [upd_ne fun z => n rfl (by rw [z]; exact hn)]
    exact e
  · by_cases z : b = a
    · subst z; rw [upd_same] at e; cases e
    · rw [upd_ne z] at e; exact e
end
section
variable {X : Cx} {B : Addr → Prop} {S : Sc} {M M1 M2 M' N : MEnv} {e c tg iter eo ei : Expr} {f f' : CE} {g h : CS} {m m1 m2 mi : Md} {w w1 w2 : Bool} {pos : Pos}
/-- x.append(e) -/
def apS (i : Nat) (f : CE) : CS := fun δ => match δ[i]? with
  | some (some (.list _)) => (f δ).bind fun p => match p.2[i]? with
    | some (some (.list ds)) => if ds.length < sizeLine then some (.nx (p.2.set i (some (.list (ds ++ [p.1]))))) else none
    | _ => none
  | _ => none
theorem apS_inv {i : Nat} {f : CE} {δ : Env} {fl : Fl} (h : apS i f δ = some fl) : ∃ ds0 d δ1 ds, δ[i]? = some (some (.list ds0)) ∧ f δ = some (d, δ1) ∧ δ1[i]? = some (some (.list ds)) ∧ ds.length < sizeLine ∧ fl = .nx (δ1.set i (some (.list (ds ++ [d])))) := by
  unfold apS at h
  split at h
  · rename_i ds0 h0
    obtain ⟨⟨d, δ1⟩, h1, h⟩ := Option.bind_eq_some_iff.mp h
    dsimp only at h
    split at h
    · rename_i ds h2
      split at h
      · rename_i hz
        cases h
        exact ⟨ds0, d, δ1, ds, h0, h1, h2, hz, rfl⟩
      · cases h
    · cases h
  · cases h
theorem ds_append {i : Nat} {px apos cpos : Pos} {x : Str} (hM : M[i]? = some (some m)) (hwr : m.fl = true) (hx : PE X (.Name x px) (tVar i)) (he : DE X B M w e f .frz)
    (hstar : PA X [e] (tCons (TD X.K B M w f .frz) tNil)) (hp : ∀ {te : TE} {t : TA}, PE X (.Name x px) te → PA X [e] t → PE X (.Call (.Attribute (.Name x px) "append" apos) [e] [] cpos) (tBM X.K "list" rAppend te t))
    (hs : swapsWith (.Call (.Attribute (.Name x px) "append" apos) [e] [] cpos) none pos.line X.env = pure false) :
    DS X B S M (.Expr (.Call (.Attribute (.Name x px) "append" apos) [e] [] cpos) pos) (apS i f) M := PS.mono (ps_expr (hp hx hstar) hs) fun D' σ H q => by
  obtain ⟨δ, o, fl, hR, hf, k⟩ := q
  obtain ⟨ds0, d, δ1, ds, h0, h1, h2, hz, rfl⟩ := apS_inv hf
  obtain ⟨a0, vs0, e0, ho0, hH0, _⟩ := hR.ownL hM hwr h0
  refine ⟨.ref a0, e0, .inl ⟨rfl, vs0, .inl (.inl hH0)⟩, δ, o, d, δ1, hR, h1, fun v H1 o1 p1 k1 R1 s1 r1 f1 c1 => ?_⟩
  obtain ⟨a, vs, ev, ho, hH, hv⟩ := R1.ownL hM hwr h2
  rw [e0] at ev
  cases ev
  refine ⟨a0, vs, v, rfl, rfl, hH, by rw [← hv.length]; exact hz, ?_⟩
  exact k σ _ o1 ((k1.up fun _ => rfl).trans s1 (Kp.wr ⟨i, ho⟩ hH)) s1 (R1.wr hM hwr h2 e0 ho hH (RepAll.append hv (.one r1)))
/-- x op= e -/
def auS (i : Nat) (φ : D → D → Option D) (f : CE) : CS := fun δ => match δ[i]? with
  | some (some old) => (f δ).bind fun p => (φ old p.1).bind fun new => some (.nx (p.2.set i (some new)))
  | _ => none
theorem PIp.of {op : Operator} {r : R2} (h : OpR X (inplaceOp op) r) : PIp X op r := h
end
end Dn
namespace Dn
open PySem PySem.Spec PyProof.Rows L2
variable [Wd]

section
variable {X : Cx}
def iaddD : D → D → Option D
  | .int i, .int j => some (.int (i + j))
  | .str x, .str y => if x.length + y.length ≤ sizeLine then some (.str (x ++ y)) else none
  | _, _ => none
abbrev CB (X : Cx) (f : Value) (φ : List D → Option D) (mo : Md) : Prop := CallR X f (rDN X.K φ mo)
theorem RepAll.one_inv {r : Rdr} {d : D} {vs : List V} (h : RepAll r [d] vs) : ∃ v, vs = [v] ∧ Rep r d v := by
  cases h with
  | cons a b => cases b; exact ⟨_, rfl, a⟩
def lenD : List D → Option D
  | [.list ds] => some (.int ds.length)
  | [.tuple ds] => some (.int ds.length)
  | [.str x] => if x.length ≤ sizeLine then some (.int x.length) else none
  | [.dict kvs] => some (.int kvs.length)
  | _ => none
theorem CallR.or2 {X : Cx} {f : Value} {r r' : List V → Hp → VK → Prop} (h : CallR X f r) (h' : CallR X f r') : CallR X f (fun xs H Q => r xs H Q ∨ r' xs H Q) := by
  intro pins s σ H xs us Q I rv q
  rcases q with q | q
  · exact h pins s σ H xs us Q I rv q
  · exact h' pins s σ H xs us Q I rv q
theorem call_lenX (hw : X.w = Wd.w) : CallR X (.builtin "len") (fun vs H Q => ∃ a xs kvs, vs = [.ref a] ∧ DicL X.K H a xs ∧ RepKv (rdL X.K H) kvs xs ∧ DOk kvs ∧ Q (.int kvs.length) H) := by
  intro pins s σ H vs us Q I rv h
  obtain ⟨a, xs, kvs, rfl, hr, hv, ok, q⟩ := h
  obtain ⟨u, rfl, ru⟩ := rv.one
  cases (show u = Value.ref a from ru)
  have hz := ok.size
  rw [sizeLine_eq] at hz
  rcases ok.kind with hT | hF
  · obtain ⟨hs, el, pe, dh, mk, _⟩ := dic_T hw I hr hv ok hT
    have hl : (mk3 kvs el).length = kvs.length := by
      have := congrArg List.length mk
      rwa [List.length_map, List.length_map] at this
    have hk : s.heap.DictKeyed (nestedKind X.prog X.w) a (pairsH (mk3 kvs el)) := ⟨_, dh, rfl⟩
    have hl2 : (pairsH (mk3 kvs el)).length = kvs.length := by rw [pairsH_length, hl]
    refine PyProof.Rows.call_len_slot (n := (pairsH (mk3 kvs el)).length) hk.typeIs PySem.F.slot_dict_len (fun Q' hq => len_keyed hs hk hq) (by omega) (by rw [hl2]; omega) ⟨.int kvs.length, H, I.tok _, ⟨_, by rw [hl2]⟩, q⟩
  · obtain ⟨hs, el, pe, dh, mk⟩ := dic_F hw I hr hv ok hF
    have hl : (mk2 kvs el).length = kvs.length := by
      have := congrArg List.length mk
      rwa [List.length_map, List.length_map] at this
    refine call_len_dict hs dh (by rw [hl]; omega) ⟨.int kvs.length, H, I.tok _, ⟨_, by rw [hl]⟩, q⟩
theorem b_len (hw : X.w = Wd.w) : CB X (.builtin "len") lenD .frz := CallR.impS (CallR.or2 call_len (call_lenX hw)) fun vs H Q h sz => by
  obtain ⟨ds, r, hd, hr, k⟩ := h
  have k := k sz
  unfold lenD at hr
  split at hr
  · cases hr
    obtain ⟨v, rfl, h⟩ := hd.one_inv
    cases h with
    | lst ha hb => exact .inl ⟨_, _, rfl, .inl ⟨_, ha, hb.length⟩, k.val (.int _)⟩
  · cases hr
    obtain ⟨v, rfl, h⟩ := hd.one_inv
    cases h with
    | tup ha hb => exact .inl ⟨_, _, rfl, .inr ⟨_, TupF.sq ha, hb.length⟩, k.val (.int _)⟩
  · split at hr
    · rename_i hz
      cases hr
      obtain ⟨v, rfl, h⟩ := hd.one_inv
      cases h
      exact .inl ⟨_, _, rfl, ⟨hz, rfl⟩, k.val (.int _)⟩
    · cases hr
  · cases hr
    obtain ⟨v, rfl, h⟩ := hd.one_inv
    cases h with
    | dic ha hb ok => exact .inr ⟨_, _, _, rfl, ha, hb, ok, k.val (.int _)⟩
  · cases hr
def intD : List D → Option D
  | [.int i] => some (.int i)
  | [.bool b] => some (.int (if b then 1 else 0))
  | _ => none
theorem b_int : CB X (.type "int") intD .frz := CallR.impS call_int1 fun vs H Q h sz => by
  obtain ⟨ds, r, hd, hr, k⟩ := h
  unfold intD at hr
  split at hr
  · cases hr
    obtain ⟨v, rfl, h⟩ := hd.one_inv
    cases h
    exact .inl ⟨_, rfl, (k sz).val (.int _)⟩
  · cases hr
    obtain ⟨v, rfl, h⟩ := hd.one_inv
    cases h
    exact .inr ⟨_, rfl, (k sz).val (.int _)⟩
  · cases hr
def tupleD : List D → Option D
  | [.list ds] => if immutAll ds = true then some (.tuple ds) else none
  | [.tuple ds] => if immutAll ds = true then some (.tuple ds) else none
  | _ => none
theorem b_tuple : CB X (.type "tuple") tupleD .frz := CallR.impS call_tuple_N fun vs H Q h sz => by
  obtain ⟨ds, r, hd, hr, k⟩ := h
  have k := k sz
  unfold tupleD at hr
  split at hr
  · split at hr
    · rename_i hi
      cases hr
      obtain ⟨v, rfl, h⟩ := hd.one_inv
      cases h with
      | lst ha hb => exact ⟨_, _, rfl, .inl ⟨ha, fun l its hl => k.tupF hl (immAll_F hb hi)⟩⟩
    · cases hr
  · split at hr
    · rename_i hi
      cases hr
      obtain ⟨v, rfl, h⟩ := hd.one_inv
      cases h with
      | tup ha hb => exact ⟨_, _, rfl, .inr ⟨TupF.sq ha, k.val (.tup ha (immAll_F hb hi))⟩⟩
    · cases hr
  · cases hr
def listD : List D → Option D
  | [.list ds] => if immutAll ds = true then some (.list ds) else none
  | [.tuple ds] => if immutAll ds = true then some (.list ds) else none
  | _ => none
theorem b_list : CB X (.type "list") listD .own := CallR.impS call_list_of fun vs H Q h sz => by
  obtain ⟨ds, r, hd, hr, k⟩ := h
  have k := k sz
  unfold listD at hr
  split at hr
  · split at hr
    · rename_i hi
      cases hr
      obtain ⟨v, rfl, h⟩ := hd.one_inv
      cases h with
      | lst ha hb => exact ⟨_, _, rfl, .inl ha, fun l hl => k.lst hl (immAll_F hb hi)⟩
    · cases hr
  · split at hr
    · rename_i hi
      cases hr
      obtain ⟨v, rfl, h⟩ := hd.one_inv
      cases h with
      | tup ha hb => exact ⟨_, _, rfl, .inr (TupF.sq ha), fun l hl => k.lst hl (immAll_F hb hi)⟩
    · cases hr
  · cases hr
def asInts : List D → Option (List Int)
  | [] => some []
  | .int i :: ds => (asInts ds).map (i :: ·)
  | _ => none
theorem asInts_rep {r : Rdr} : ∀ {ds : List D} {ns : List Int} {vs : List V}, asInts ds = some ns → RepAll r ds vs → vs = ns.map V.int
  | [], ns, vs, h, hr => by cases h; cases hr; rfl
  | .int i :: ds, ns, vs, h, hr => by
    simp only [asInts] at h
    obtain ⟨ms, h1, rfl⟩ := Option.map_eq_some_iff.mp h
    cases hr with
    | cons a b =>
      cases a
      rw [asInts_rep h1 b]
      rfl
  | .none :: _, _, _, h, _ => by cases h
  | .bool _ :: _, _, _, h, _ => by cases h
  | .str _ :: _, _, _, h, _ => by cases h
  | .list _ :: _, _, _, h, _ => by cases h
  | .tuple _ :: _, _, _, h, _ => by cases h
  | .dict _ :: _, _, _, h, _ => by cases h
def asBools : List D → Option (List Bool)
  | [] => some []
  | .bool i :: ds => (asBools ds).map (i :: ·)
  | _ => none
theorem asBools_rep {r : Rdr} : ∀ {ds : List D} {ns : List Bool} {vs : List V}, asBools ds = some ns → RepAll r ds vs → vs = ns.map V.bl
  | [], ns, vs, h, hr => by cases h; cases hr; rfl
  | .bool i :: ds, ns, vs, h, hr => by
    simp only [asBools] at h
    obtain ⟨ms, h1, rfl⟩ := Option.map_eq_some_iff.mp h
    cases hr with
    | cons a b =>
      cases a
      rw [asBools_rep h1 b]
      rfl
  | .none :: _, _, _, h, _ => by cases h
  | .int _ :: _, _, _, h, _ => by cases h
  | .str _ :: _, _, _, h, _ => by cases h
  | .list _ :: _, _, _, h, _ => by cases h
  | .tuple _ :: _, _, _, h, _ => by cases h
  | .dict _ :: _, _, _, h, _ => by cases h
def allD : List D → Option D
  | [.list ds] => (asBools ds).map fun ns => .bool (ns.all id)
  | _ => none
def anyD : List D → Option D
  | [.list ds] => (asBools ds).map fun ns => .bool (ns.any id)
  | _ => none
end
end Dn
namespace RZ
open PySem PySem.Spec PyProof.Rows L2
open PySem.Sem (wp)
section
variable {prog : Program} {w : World} {A : Around} {E : Value → Shared → Prop} {s : Shared} {z TI TO i1 i2 l1 l2 : Addr} {k1 k2 : Nat} {xs ys : Array Value} {x y a b : Value}
/-- the heap's keys but those four -/
def But4 (z TO i1 i2 : Addr) (h h' : Heap) : Prop := ∀ c o, c ≠ z → c ≠ TO → c ≠ i1 → c ≠ i2 → h.get? c = some o → h'.get? c = some o
theorem nxM_item {Q : Value → Shared → Prop} (D : ZipApart z TI TO i1 i2 l1 l2) (hz : IsZip s.heap z TI TO .none) (hTI : IsPair s.heap TI (.ref i1) (.ref i2)) (hTO : IsPair s.heap TO a b) (j1 : s.heap.IsListIter i1 l1 k1) (j2 : s.heap.IsTupleIter i2 l2 k2) (q1 : s.heap.IsList l1 xs) (q2 : s.heap.IsTuple l2 ys) (hx : xs[k1]? = some x) (hy : ys[k2]? = some y)
    (hQ : ∀ h', IsZip h' z TI TO (rawInt s.heap.objs.size) → IsPair h' TO x y → h'.IsListIter i1 l1 (k1 + 1) → h'.IsTupleIter i2 l2 (k2 + 1) → IsPair h' s.heap.objs.size x y → h'.objs.size = s.heap.objs.size + 1 → But4 z TO i1 i2 s.heap h' → Q (.ref s.heap.objs.size) { s with heap := h' }) :
    wpAny (model prog w) A (Builtin.«zip.__next__» ⟨[.ref z], []⟩) (fun fin s' => ∃ v, fin = .done (.ret v) ∧ Q v s') E s := by
  show wpAny (model prog w) A (field (.ref z) 2 >>= _) _ E s
  refine wpAny_bind (wpAny_field hz rfl (x := .bool false) rfl ?_)
  show wpAny (model prog w) A (field (.ref z) 3 >>= _) _ E s
  refine wpAny_bind (wpAny_field hz rfl (x := .ref TI) rfl (wpAny_bind (wpAny_seqItems hTI rfl ?_)))
  show wpAny (model prog w) A (Builtin.SmallTypes.ownedTupleIsFree (.ref z) >>= _) _ E s
  unfold Builtin.SmallTypes.ownedTupleIsFree
  refine wpAny_bind (wpAny_bind (wpAny_field hz rfl (x := .none) rfl (wpAny_pure ?_)))
  simp only [if_true]
  refine wpAny_bind (wpAny_rule (wpAny_bind (wpAny_field hz rfl (x := .ref TO) rfl ?_)))
  refine wpAny_bind (wpAny_setField_rec hz (by simp) fun ha za sa => ?_)
  replace za : IsZip ha z TI TO .ellipsis := za
  refine wpAny_bind ?_
  simp only [List.zipIdx_cons, List.zipIdx_nil, List.forIn_cons, List.forIn_nil]
  have ea := sa.extBut
  refine wpAny_bind (wpAny_bind (wpAny_onRaise ?_))
  show wpAny (model prog w) A (Builtin.SmallTypes.nextOf (.ref i1) >>= _) _ _ _
  refine wpAny_bind (wpAny_nextOf_list_item (j1.extBut ea D.i1z) (q1.extBut ea D.l1z) hx fun hb jb sb => wpAny_pure ?_)
  have eb := sb.extBut
  have tb : IsPair hb TO a b := eb _ _ D.TOi1 (ea _ _ D.TOz hTO)
  refine wpAny_bind (wpAny_seqItems tb rfl (wpAny_bind (wpAny_updateSeq_pair tb fun hc tc sc => ?_)))
  replace tc : IsPair hc TO x b := tc
  have ec := sc.extBut
  refine wpAny_bind (wpAny_letGo (wpAny_pure (wpAny_bind (wpAny_bind (wpAny_onRaise ?_)))))
  show wpAny (model prog w) A (Builtin.SmallTypes.nextOf (.ref i2) >>= _) _ _ _
  have j2c := ((j2.extBut ea D.i2z).extBut eb D.i12.symm).extBut ec D.TOi2.symm
  have q2c := ((q2.extBut ea D.l2z).extBut eb D.l2i1).extBut ec D.l2TO
  refine wpAny_bind (nextOf_tuple_item j2c q2c hy fun hd jd sd => wpAny_pure ?_)
  have ed := sd.extBut
  have td : IsPair hd TO x b := ed _ _ D.TOi2 tc
  refine wpAny_bind (wpAny_seqItems td rfl (wpAny_bind (wpAny_updateSeq_pair td fun he te se => ?_)))
  replace te : IsPair he TO x y := te
  have ee := se.extBut
  refine wpAny_bind (wpAny_letGo (wpAny_pure (wpAny_pure (wpAny_bind (wpAny_seqItems te rfl (wpAny_bind (wpAny_newTuple ?_)))))))
  have size : he.objs.size = s.heap.objs.size := by rw [se.1, sd.1, sc.1, sb.1, sa.1]
  have ze : IsZip he z TI TO .ellipsis := ee _ _ D.TOz.symm (ed _ _ D.i2z.symm (ec _ _ D.TOz.symm (eb _ _ D.i1z.symm za)))
  have kp : But4 z TO i1 i2 s.heap he := fun c o c1 c2 c3 c4 e => ee _ _ c2 (ed _ _ c4 (ec _ _ c2 (eb _ _ c3 (ea _ _ c1 e))))
  have j1e : he.IsListIter i1 l1 (k1 + 1) := ((jb.extBut ec D.TOi1.symm).extBut ed D.i12).extBut ee D.TOi1.symm
  have j2e : he.IsTupleIter i2 l2 (k2 + 1) := jd.extBut ee D.TOi2.symm
  have zlt : z < he.objs.size := Heap.lt_size ze
  show wpAny (model prog w) A (Builtin.SmallTypes.ownedTupleHandOut (.ref z) (.ref he.objs.size) >>= _) _ E _
  unfold Builtin.SmallTypes.ownedTupleHandOut
  have zf : IsZip (he.push { cls := .type "tuple", data := .seq #[x, y] }) z TI TO .ellipsis := Heap.get?_push_of_some _ ze
  refine wpAny_bind (wpAny_bind (wpAny_setField_rec zf (by simp) fun hg zg sg => ?_))
  replace zg : IsZip hg z TI TO (rawInt he.objs.size) := zg
  refine wpAny_setField_rec zg (by simp) fun hh zh sh => ?_
  replace zh : IsZip hh z TI TO (rawInt he.objs.size) := zh
  have up : ∀ c o, c ≠ z → he.get? c = some o → hh.get? c = some o := fun c o c1 e => sh.extBut _ _ c1 (sg.extBut _ _ c1 (Heap.get?_push_of_some _ e))
  have nw : IsPair hh he.objs.size x y := sh.extBut _ _ (Nat.ne_of_gt zlt) (sg.extBut _ _ (Nat.ne_of_gt zlt) (Heap.get?_push_size _ rfl))
  have sz : hh.objs.size = he.objs.size + 1 := by rw [sh.1, sg.1, Heap.size_push]
  rw [size] at zh nw sz
  refine wpAny_pure ⟨_, rfl, ?_⟩
  show Q (.ref he.objs.size) _
  rw [size]
  exact hQ hh zh (up _ _ D.TOz te) (j1e.at fun o e => up _ o D.i1z e) (j2e.at fun o e => up _ o D.i2z e) nw sz fun c o c1 c2 c3 c4 e => up c o c1 (kp c o c1 c2 c3 c4 e)
theorem nxM_end {Q : Fin → Shared → Prop} (hh : A.handled = none) (D : ZipApart z TI TO i1 i2 l1 l2) (hz : IsZip s.heap z TI TO .none) (hTI : IsPair s.heap TI (.ref i1) (.ref i2)) (hTO : IsPair s.heap TO a b) (j1 : s.heap.IsListIter i1 l1 k1) (j2 : s.heap.IsTupleIter i2 l2 k2) (q1 : s.heap.IsList l1 xs) (q2 : s.heap.IsTuple l2 ys) (hend : xs[k1]? = none ∨ ys[k2]? = none)
    (hE : ∀ h' e, But4 z TO i1 i2 s.heap h' → (∃ o, h'.get? e = some o ∧ o.cls = .type "StopIteration") → E (.ref e) { s with heap := h' }) :
    wpAny (model prog w) A (Builtin.«zip.__next__» ⟨[.ref z], []⟩) Q E s := by
  show wpAny (model prog w) A (field (.ref z) 2 >>= _) _ E s
  refine wpAny_bind (wpAny_field hz rfl (x := .bool false) rfl ?_)
  show wpAny (model prog w) A (field (.ref z) 3 >>= _) _ E s
  refine wpAny_bind (wpAny_field hz rfl (x := .ref TI) rfl (wpAny_bind (wpAny_seqItems hTI rfl ?_)))
  show wpAny (model prog w) A (Builtin.SmallTypes.ownedTupleIsFree (.ref z) >>= _) _ E s
  unfold Builtin.SmallTypes.ownedTupleIsFree
  refine wpAny_bind (wpAny_bind (wpAny_field hz rfl (x := .none) rfl (wpAny_pure ?_)))
  simp only [if_true]
  refine wpAny_bind (wpAny_rule (wpAny_bind (wpAny_field hz rfl (x := .ref TO) rfl ?_)))
  refine wpAny_bind (wpAny_setField_rec hz (by simp) fun ha za sa => ?_)
  replace za : IsZip ha z TI TO .ellipsis := za
  refine wpAny_bind ?_
  simp only [List.zipIdx_cons, List.zipIdx_nil, List.forIn_cons, List.forIn_nil]
  have ea := sa.extBut
  refine wpAny_bind (wpAny_bind (wpAny_onRaise ?_))
  show wpAny (model prog w) A (Builtin.SmallTypes.nextOf (.ref i1) >>= _) _ _ _
  have fin : ∀ (hb : Heap) (e : Addr), IsZip hb z TI TO .ellipsis → But4 z TO i1 i2 s.heap hb → (∃ o, hb.get? e = some o ∧ o.cls = .type "StopIteration") → wpAny (model prog w) A (setField (.ref z) 0 .none) (fun _ s' => E (.ref e) s') E { s with heap := hb } := by
    intro hb e zb kb he
    obtain ⟨oe, ge, ce⟩ := he
    have ne : e ≠ z := fun q => by subst q; rw [zb] at ge; cases ge; simp at ce
    exact wpAny_setField_rec zb (by simp) fun hc _ sc => hE hc e (fun c o c1 c2 c3 c4 q => sc.extBut _ _ c1 (kb c o c1 c2 c3 c4 q)) ⟨oe, sc.extBut _ _ ne ge, ce⟩
  cases hx : xs[k1]? with
  | none =>
    refine wpAny_bind (wpAny_nextOf_list_end hh (j1.extBut ea D.i1z) (q1.extBut ea D.l1z) hx fun hb e sb he => ?_)
    exact fin hb e (sb _ _ D.i1z.symm za) (fun c o c1 _ c3 _ q => sb _ _ c3 (ea _ _ c1 q)) he
  | some x =>
    have hy : ys[k2]? = none := by rcases hend with h | h; rw [hx] at h; cases h; exact h
    refine wpAny_bind (wpAny_nextOf_list_item (j1.extBut ea D.i1z) (q1.extBut ea D.l1z) hx fun hb jb sb => wpAny_pure ?_)
    have eb := sb.extBut
    have tb : IsPair hb TO a b := eb _ _ D.TOi1 (ea _ _ D.TOz hTO)
    refine wpAny_bind (wpAny_seqItems tb rfl (wpAny_bind (wpAny_updateSeq_pair tb fun hc tc sc => ?_)))
    have ec := sc.extBut
    refine wpAny_bind (wpAny_letGo (wpAny_pure (wpAny_bind (wpAny_bind (wpAny_onRaise ?_)))))
    show wpAny (model prog w) A (Builtin.SmallTypes.nextOf (.ref i2) >>= _) _ _ _
    have j2c := ((j2.extBut ea D.i2z).extBut eb D.i12.symm).extBut ec D.TOi2.symm
    have q2c := ((q2.extBut ea D.l2z).extBut eb D.l2i1).extBut ec D.l2TO
    refine wpAny_bind (nextOf_tuple_end hh j2c q2c hy fun hd e sd he => ?_)
    exact fin hd e (sd _ _ D.i2z.symm (ec _ _ D.TOz.symm (eb _ _ D.i1z.symm za))) (fun c o c1 c2 c3 c4 q => sd _ _ c4 (ec _ _ c2 (eb _ _ c3 (ea _ _ c1 q)))) he
theorem pyNext_zipM_item {Q : Option Value → Shared → Prop} (D : ZipApart z TI TO i1 i2 l1 l2) (hz : IsZip s.heap z TI TO .none) (hTI : IsPair s.heap TI (.ref i1) (.ref i2)) (hTO : IsPair s.heap TO a b) (j1 : s.heap.IsListIter i1 l1 k1) (j2 : s.heap.IsTupleIter i2 l2 k2) (q1 : s.heap.IsList l1 xs) (q2 : s.heap.IsTuple l2 ys) (hx : xs[k1]? = some x) (hy : ys[k2]? = some y)
    (hQ : ∀ h', IsZip h' z TI TO (rawInt s.heap.objs.size) → IsPair h' TO x y → h'.IsListIter i1 l1 (k1 + 1) → h'.IsTupleIter i2 l2 (k2 + 1) → IsPair h' s.heap.objs.size x y → h'.objs.size = s.heap.objs.size + 1 → But4 z TO i1 i2 s.heap h' → Q (some (.ref s.heap.objs.size)) { s with heap := h' }) :
    wpAny (model prog w) A (pyNext (.ref z)) Q E s := by
  have ty : s.TypeIs (.ref z) "zip" := ⟨_, hz, rfl⟩
  unfold pyNext
  refine wpAny_bind (wpAny_attempt (wpAny_callSpecial?_slot (name := Str.ofString "__next__") ty F.slot_zip_next (wpAny_call_entry F.slot_zip_next ty F.entry_zip_next ?_ (F.args_zip_next_1 _))))
  exact nxM_item D hz hTI hTO j1 j2 q1 q2 hx hy fun h' a1 a2 a3 a4 a5 a6 a7 => wpAny_pure (hQ h' a1 a2 a3 a4 a5 a6 a7)
theorem pyNext_zipM_end {Q : Option Value → Shared → Prop} (hh : A.handled = none) (D : ZipApart z TI TO i1 i2 l1 l2) (hz : IsZip s.heap z TI TO .none) (hTI : IsPair s.heap TI (.ref i1) (.ref i2)) (hTO : IsPair s.heap TO a b) (j1 : s.heap.IsListIter i1 l1 k1) (j2 : s.heap.IsTupleIter i2 l2 k2) (q1 : s.heap.IsList l1 xs) (q2 : s.heap.IsTuple l2 ys) (hend : xs[k1]? = none ∨ ys[k2]? = none)
    (hQ : ∀ h', But4 z TO i1 i2 s.heap h' → Q none { s with heap := h' }) : wpAny (model prog w) A (pyNext (.ref z)) Q E s := by
  have ty : s.TypeIs (.ref z) "zip" := ⟨_, hz, rfl⟩
  unfold pyNext
  refine wpAny_bind (wpAny_attempt (wpAny_callSpecial?_slot (name := Str.ofString "__next__") ty F.slot_zip_next (wpAny_call_entry F.slot_zip_next ty F.entry_zip_next ?_ (F.args_zip_next_1 _))))
  refine nxM_end hh D hz hTI hTO j1 j2 q1 q2 hend fun h' e kb he => ?_
  obtain ⟨o, g1, g2⟩ := he
  exact wpAny_bind (wpAny_isInstance (T := "StopIteration") (b := true) ⟨o, g1, g2⟩ isSubtype_stop (wpAny_pure (hQ _ kb)))
abbrev mH1 (h : Heap) (l1 : Addr) : Heap := h.push { cls := .type "list_iterator", data := .fields #[.ref l1, .int 0 0] }
abbrev mH2 (h : Heap) (l1 l2 : Addr) : Heap := (mH1 h l1).push { cls := .type "tuple_iterator", data := .fields #[.ref l2, .int 0 0] }
abbrev mH3 (h : Heap) (l1 l2 : Addr) : Heap := (mH2 h l1 l2).push { cls := .type "tuple", data := .seq #[.ref h.objs.size, .ref (mH1 h l1).objs.size] }
abbrev mH4 (h : Heap) (l1 l2 : Addr) : Heap := (mH3 h l1 l2).push { cls := .type "tuple", data := .seq #[.none, .none] }
abbrev mH5 (h : Heap) (l1 l2 : Addr) : Heap := (mH4 h l1 l2).push { cls := .type "zip", data := .fields #[.none, .bool false, .bool false, .ref (mH2 h l1 l2).objs.size, .ref (mH3 h l1 l2).objs.size] }
theorem meets_zipM (l1 l2 : Addr) (xs ys : Array Value) :
    Meets (Builtin.«zip.__new__» ⟨[.type "zip", .ref l1, .ref l2], []⟩) (fun _ R s => s.heap.IsList l1 xs ∧ s.heap.IsTuple l2 ys ∧ R (.ok (.ret (.ref (mH4 s.heap l1 l2).objs.size))) { s with heap := mH5 s.heap l1 l2 }) :=
  .of_wp fun prog w A R s h => by
    obtain ⟨hp, g, d, tk, os⟩ := s
    obtain ⟨q1, q2, h⟩ := h
    have hs := sub_zip
    have r1 : Heap.IsList (Shared.heap ⟨hp, g, d, tk, os⟩) l1 xs := q1
    have r2 : Heap.IsTuple (Shared.heap ⟨hp.push { cls := .type "list_iterator", data := .fields #[.ref l1, .int 0 0] }, g, d, tk, os⟩) l2 ys := Heap.IsTuple.push q2 _
    wp_walk using wpAny_pyIter_list r1, wpAny_pyIter_tuple r2
    exact ⟨_, rfl, h⟩
theorem call_zipM {Q : Value → Shared → Prop} (q1 : s.heap.IsList l1 xs) (q2 : s.heap.IsTuple l2 ys)
    (h : ∀ h', IsZip h' (s.heap.objs.size + 4) (s.heap.objs.size + 2) (s.heap.objs.size + 3) .none → IsPair h' (s.heap.objs.size + 2) (.ref s.heap.objs.size) (.ref (s.heap.objs.size + 1)) → IsPair h' (s.heap.objs.size + 3) .none .none → h'.IsListIter s.heap.objs.size l1 0 → h'.IsTupleIter (s.heap.objs.size + 1) l2 0 → h'.objs.size = s.heap.objs.size + 5 → (∀ c o, s.heap.get? c = some o → h'.get? c = some o) → Q (.ref (s.heap.objs.size + 4)) { s with heap := h' }) :
    wpAny (model prog w) A (call (.type "zip") [.ref l1, .ref l2]) Q E s := by
  refine callType_new F.called_zip (by decide) (F.typeCall_zip_2 _ _) (F.newCall_zip_2 _ _) (fun obj => F.args_object_init_3 obj _ _) F.entry_zip_new (meets_zipM l1 l2 xs ys) ⟨q1, q2, ?_⟩
  have s1 : (mH1 s.heap l1).objs.size = s.heap.objs.size + 1 := Heap.size_push ..
  have s2 : (mH2 s.heap l1 l2).objs.size = s.heap.objs.size + 2 := by rw [Heap.size_push, s1]
  have s3 : (mH3 s.heap l1 l2).objs.size = s.heap.objs.size + 3 := by rw [Heap.size_push, s2]
  have s4 : (mH4 s.heap l1 l2).objs.size = s.heap.objs.size + 4 := by rw [Heap.size_push, s3]
  have s5 : (mH5 s.heap l1 l2).objs.size = s.heap.objs.size + 5 := by rw [Heap.size_push, s4]
  have k1 : ∀ c o, s.heap.get? c = some o → (mH1 s.heap l1).get? c = some o := fun c o => Heap.get?_push_of_some _
  have k2 : ∀ c o, (mH1 s.heap l1).get? c = some o → (mH2 s.heap l1 l2).get? c = some o := fun c o => Heap.get?_push_of_some _
  have k3 : ∀ c o, (mH2 s.heap l1 l2).get? c = some o → (mH3 s.heap l1 l2).get? c = some o := fun c o => Heap.get?_push_of_some _
  have k4 : ∀ c o, (mH3 s.heap l1 l2).get? c = some o → (mH4 s.heap l1 l2).get? c = some o := fun c o => Heap.get?_push_of_some _
  have k5 : ∀ c o, (mH4 s.heap l1 l2).get? c = some o → (mH5 s.heap l1 l2).get? c = some o := fun c o => Heap.get?_push_of_some _
  have g5 : (mH5 s.heap l1 l2).get? (mH4 s.heap l1 l2).objs.size = some _ := Heap.get?_push_size _ rfl
  have g4 : (mH5 s.heap l1 l2).get? (mH3 s.heap l1 l2).objs.size = some _ := k5 _ _ (Heap.get?_push_size _ rfl)
  have g3 : (mH5 s.heap l1 l2).get? (mH2 s.heap l1 l2).objs.size = some _ := k5 _ _ (k4 _ _ (Heap.get?_push_size _ rfl))
  have g2 : (mH5 s.heap l1 l2).get? (mH1 s.heap l1).objs.size = some _ := k5 _ _ (k4 _ _ (k3 _ _ (Heap.get?_push_size _ rfl)))
  have g1 : (mH5 s.heap l1 l2).get? s.heap.objs.size = some _ := k5 _ _ (k4 _ _ (k3 _ _ (k2 _ _ (Heap.get?_push_size _ rfl))))
  show _ ∧ _
  rw [s2, s3, s4] at g5
  rw [s1, s2] at g3
  rw [s3] at g4
  rw [s1] at g2
  rw [s4]
  exact ⟨⟨_, g5, rfl⟩, h _ g5 g3 g4 ⟨_, g1, rfl, rfl⟩ ⟨_, g2, rfl, rfl⟩ s5 fun c o e => k5 _ _ (k4 _ _ (k3 _ _ (k2 _ _ (k1 _ _ e))))⟩
end

section
/-- a list (true) or a tuple -/
def seqV (l : Bool) (K : PySem.W.Frag) (H : Hp) (a : Addr) (vs : List V) : Prop := match l with | true => SqL K H a vs | false => SqT K H a vs
def seqH (l : Bool) (h : Heap) (a : Addr) (its : Array Value) : Prop := match l with | true => h.IsList a its | false => h.IsTuple a its
def itrH (l : Bool) (h : Heap) (i a : Addr) (n : Nat) : Prop := match l with | true => h.IsListIter i a n | false => h.IsTupleIter i a n
theorem itrH.obj {l : Bool} {h : Heap} {i a : Addr} {n : Nat} (q : itrH l h i a n) : ∃ o, h.get? i = some o ∧ ∀ v : Option Value, o.data ≠ Data.cell v := by
  cases l
  all_goals
    obtain ⟨o, e, _, d⟩ := q
    refine ⟨o, e, fun v z => ?_⟩
    rw [d] at z
    cases z
theorem itrH.at {l : Bool} {h h' : Heap} {i a : Addr} {n : Nat} (q : itrH l h i a n) (k : ∀ o, h.get? i = some o → h'.get? i = some o) : itrH l h' i a n := by
  cases l
  · exact Heap.IsTupleIter.at q k
  · exact Heap.IsListIter.at q k
theorem seqV.vals {l : Bool} {X : Cx} {pins : List (Addr × Obj)} {σ : L2.St} {H : Hp} {s : Shared} {a : Addr} {vs : List V} (I : Inv X pins σ H s) (q : seqV l X.K H a vs) : ∃ its : List Value, Vals vs its ∧ seqH l s.heap a its.toArray := by
  cases l
  · obtain ⟨its, r, p, _⟩ := I.tuple q
    exact ⟨its, r, p⟩
  · obtain ⟨its, r, p, _⟩ := I.list q
    exact ⟨its, r, p.isList⟩
theorem seqV.inj {l : Bool} {X : Cx} {pins : List (Addr × Obj)} {σ : L2.St} {H : Hp} {s : Shared} {a : Addr} {vs us : List V} (I : Inv X pins σ H s) (p : seqV l X.K H a vs) (q : seqV l X.K H a us) : vs = us := by
  cases l
  · exact I.tuple_inj p q
  · exact I.list_inj p q
def pairOk (l r : Bool) : Prop := (l = true ∧ r = true) ∨ (l = true ∧ r = false) ∨ (l = false ∧ r = false)
section
variable {prog : Program} {w : World} {A : Around} {E : Value → Shared → Prop} {s : Shared} {z TI TO i1 i2 l1 l2 : Addr} {k1 k2 : Nat} {xs ys : Array Value} {x y a b : Value} {l r : Bool}
theorem next_zipN {Q : Option Value → Shared → Prop} (ok : pairOk l r) (D : ZipApart z TI TO i1 i2 l1 l2) (hz : IsZip s.heap z TI TO .none) (tI : IsPair s.heap TI (.ref i1) (.ref i2)) (tO : IsPair s.heap TO a b) (j1 : itrH l s.heap i1 l1 k1) (j2 : itrH r s.heap i2 l2 k2) (q1 : seqH l s.heap l1 xs) (q2 : seqH r s.heap l2 ys) (hx : xs[k1]? = some x) (hy : ys[k2]? = some y)
    (hQ : ∀ h', IsZip h' z TI TO (rawInt s.heap.objs.size) → IsPair h' TO x y → itrH l h' i1 l1 (k1 + 1) → itrH r h' i2 l2 (k2 + 1) → IsPair h' s.heap.objs.size x y → But4 z TO i1 i2 s.heap h' → Q (some (.ref s.heap.objs.size)) { s with heap := h' }) :
    wpAny (model prog w) A (pyNext (.ref z)) Q E s := by
  rcases ok with ⟨rfl, rfl⟩ | ⟨rfl, rfl⟩ | ⟨rfl, rfl⟩
  · exact wpAny_pyNext_zip_item D hz tI tO j1 j2 q1 q2 hx hy fun h' c1 c2 c3 c4 c5 _ c7 => hQ h' c1 c2 c3 c4 c5 c7
  · exact pyNext_zipM_item D hz tI tO j1 j2 q1 q2 hx hy fun h' c1 c2 c3 c4 c5 _ c7 => hQ h' c1 c2 c3 c4 c5 c7
  · exact pyNext_zipT_item D hz tI tO j1 j2 q1 q2 hx hy fun h' c1 c2 c3 c4 c5 _ c7 => hQ h' c1 c2 c3 c4 c5 c7
theorem stop_zipN {Q : Option Value → Shared → Prop} (ok : pairOk l r) (hh : A.handled = none) (D : ZipApart z TI TO i1 i2 l1 l2) (hz : IsZip s.heap z TI TO .none) (tI : IsPair s.heap TI (.ref i1) (.ref i2)) (tO : IsPair s.heap TO a b) (j1 : itrH l s.heap i1 l1 k1) (j2 : itrH r s.heap i2 l2 k2) (q1 : seqH l s.heap l1 xs) (q2 : seqH r s.heap l2 ys) (hend : xs[k1]? = none ∨ ys[k2]? = none)
    (hQ : ∀ h', But4 z TO i1 i2 s.heap h' → Q none { s with heap := h' }) : wpAny (model prog w) A (pyNext (.ref z)) Q E s := by
  rcases ok with ⟨rfl, rfl⟩ | ⟨rfl, rfl⟩ | ⟨rfl, rfl⟩
  · exact wpAny_pyNext_zip_end hh D hz tI tO j1 j2 q1 q2 hend hQ
  · exact pyNext_zipM_end hh D hz tI tO j1 j2 q1 q2 hend hQ
  · exact pyNext_zipT_end hh D hz tI tO j1 j2 q1 q2 hend hQ
theorem make_zipN {Q : Value → Shared → Prop} (ok : pairOk l r) (q1 : seqH l s.heap l1 xs) (q2 : seqH r s.heap l2 ys)
    (h : ∀ h', IsZip h' (s.heap.objs.size + 4) (s.heap.objs.size + 2) (s.heap.objs.size + 3) .none → IsPair h' (s.heap.objs.size + 2) (.ref s.heap.objs.size) (.ref (s.heap.objs.size + 1)) → IsPair h' (s.heap.objs.size + 3) .none .none → itrH l h' s.heap.objs.size l1 0 → itrH r h' (s.heap.objs.size + 1) l2 0 →
      (∀ c o, s.heap.get? c = some o → h'.get? c = some o) → Q (.ref (s.heap.objs.size + 4)) { s with heap := h' }) : wpAny (model prog w) A (call (.type "zip") [.ref l1, .ref l2]) Q E s := by
  rcases ok with ⟨rfl, rfl⟩ | ⟨rfl, rfl⟩ | ⟨rfl, rfl⟩
  · exact call_zip_2 q1 q2 fun h' c1 c2 c3 c4 c5 _ c7 => h h' c1 c2 c3 c4 c5 c7
  · exact call_zipM q1 q2 fun h' c1 c2 c3 c4 c5 _ c7 => h h' c1 c2 c3 c4 c5 c7
  · exact call_zipT q1 q2 fun h' c1 c2 c3 c4 c5 _ c7 => h h' c1 c2 c3 c4 c5 c7
theorem seqH.lt {l : Bool} {h : Heap} {a : Addr} {its : Array Value} (q : seqH l h a its) : a < h.objs.size := by
  cases l
  all_goals
    obtain ⟨o, e, _⟩ := q
    exact Heap.lt_size e
end
/-- both as they stand at each turn, the items in new pairs -/
def ItzN (l r : Bool) (K : PySem.W.Frag) (a b : Addr) : It :=
  ⟨fun i H => ∃ (xs ys : List V) (x y : V), seqV l K H a xs ∧ seqV r K H b ys ∧ xs[i]? = some x ∧ ys[i]? = some y,
    fun i H v H' => ∃ T x y, v = .ref T ∧ H T = none ∧ (∃ its, H' = upd H T (Dn.tupO its [x, y])) ∧ (∀ xs, seqV l K H a xs → xs[i]? = some x) ∧ ∀ ys, seqV r K H b ys → ys[i]? = some y,
    fun i H => ∃ xs ys : List V, seqV l K H a xs ∧ seqV r K H b ys ∧ (xs.length ≤ i ∨ ys.length ≤ i)⟩
theorem of5 {c z TI TO i1 i2 : Addr} {p : Addr → Prop} (h : c ∈ [z, TI, TO, i1, i2]) (a1 : p z) (a2 : p TI) (a3 : p TO) (a4 : p i1) (a5 : p i2) : p c := by
  have e : c = z ∨ c = TI ∨ c = TO ∨ c = i1 ∨ c = i2 := by simpa using h
  rcases e with rfl | rfl | rfl | rfl | rfl <;> assumption
theorem out5 {b z TI TO i1 i2 : Addr} (h : b ∉ [z, TI, TO, i1, i2]) : b ≠ z ∧ b ≠ TO ∧ b ≠ i1 ∧ b ≠ i2 := by
  simp only [List.mem_cons, List.not_mem_nil, or_false, not_or] at h
  exact ⟨h.1, h.2.2.1, h.2.2.2.1, h.2.2.2.2⟩
theorem turn_zipN {P : Program} {w : World} {K : PySem.W.Frag} {elts : List Expr} {kk : Nat} {tpos : Pos} {a b z TI TO i1 i2 : Addr} {l r : Bool} (ok : pairOk l r) (D : ZipApart z TI TO i1 i2 a b) :
    Turn P w K (.Tuple elts kk tpos) (ItzN l r K a b) [z, TI, TO, i1, i2] z (fun i h => IsZip h z TI TO .none ∧ IsPair h TI (.ref i1) (.ref i2) ∧ (∃ x y, IsPair h TO x y) ∧ itrH l h i1 a i ∧ itrH r h i2 b i) where
  mem := by simp
  obj := fun i h st c hc => by
    obtain ⟨hz, tI, ⟨x, y, tO⟩, j1, j2⟩ := st
    exact of5 (p := fun c => ∃ o, h.get? c = some o ∧ ∀ v : Option Value, o.data ≠ Data.cell v) hc ⟨_, hz, fun v q => nomatch q⟩ ⟨_, tI, fun v q => nomatch q⟩ ⟨_, tO, fun v q => nomatch q⟩ j1.obj j2.obj
  keep := fun i h h' st k => by
    obtain ⟨hz, tI, ⟨x, y, tO⟩, j1, j2⟩ := st
    exact ⟨k z (by simp) _ hz, k TI (by simp) _ tI, ⟨x, y, k TO (by simp) _ tO⟩, j1.at fun o q => k i1 (by simp) o q, j2.at fun o q => k i2 (by simp) o q⟩
  item := by
    intro X hP hw hK hc i pins s σ H E I hf st hg
    subst hP hw hK
    obtain ⟨hz, tI, ⟨x0, y0, tO⟩, j1, j2⟩ := st
    obtain ⟨xs, ys, x, y, sx, sy, hx, hy⟩ := hg
    obtain ⟨its, rx, px⟩ := seqV.vals I sx
    obtain ⟨jts, ry, py⟩ := seqV.vals I sy
    obtain ⟨u, hu, ru⟩ := rx.get hx
    obtain ⟨t, ht, rt⟩ := ry.get hy
    have zl : z < s.heap.objs.size := Heap.lt_size hz
    refine next_zipN ok D hz tI tO j1 j2 px py (x := u) (y := t) (by simpa using hu) (by simpa using ht) fun h' zn tn jn jm nw hk => ?_
    refine ⟨_, rfl, wpAny_letOwnedTupleGo_zip (s := { s with heap := h' }) zn fun h2 zo sb => ?_⟩
    have nw2 : h2.get? s.heap.objs.size = some { cls := .type "tuple", data := .seq #[u, t] } := (sb.2 _ (Nat.ne_of_gt zl)).trans nw
    have J : Inv X pins σ (upd H s.heap.objs.size (Dn.tupO [u, t] [x, y])) { s with heap := h2 } := I.turnedNew (t' := s.toks) (ch := [z, TI, TO, i1, i2]) (fun c o hb q => by
      obtain ⟨n1, n2, n3, n4⟩ := out5 hb
      exact (sb.2 c n1).trans (hk c o n1 n2 n3 n4 q)) hf (Nat.le_refl _) (Dn.pair_ok ru rt nw2)
    have lts : ∀ c ∈ [z, TI, TO, i1, i2], c < s.heap.objs.size := fun c hc => of5 (p := fun c => c < s.heap.objs.size) hc zl (Heap.lt_size tI) (Heap.lt_size tO) (let ⟨_, e, _⟩ := j1.obj; Heap.lt_size e) (let ⟨_, e, _⟩ := j2.obj; Heap.lt_size e)
    refine ⟨.ref _, _, J, rfl, ⟨_, x, y, rfl, I.fresh, ⟨_, rfl⟩, fun m hm => by rw [seqV.inj I hm sx]; exact hx, fun m hm => by rw [seqV.inj I hm sy]; exact hy⟩, ⟨zo, ?_, ⟨u, t, ?_⟩, ?_, ?_⟩, fun c hc => ?_⟩
    · exact (sb.2 _ D.TIz).trans (hk _ _ D.TIz D.TITO D.TIi1 D.TIi2 tI)
    · exact (sb.2 _ D.TOz).trans tn
    · exact jn.at fun o q => (sb.2 _ D.i1z).trans q
    · exact jm.at fun o q => (sb.2 _ D.i2z).trans q
    · rw [upd_ne (Nat.ne_of_lt (lts c hc))]
      exact (hf c hc).1
  done := by
    intro X hP hw hK hc i pins s σ H E I hf st hg
    subst hP hw hK
    obtain ⟨hz, tI, ⟨x0, y0, tO⟩, j1, j2⟩ := st
    obtain ⟨xs, ys, sx, sy, hend⟩ := hg
    obtain ⟨its, rx, px⟩ := seqV.vals I sx
    obtain ⟨jts, ry, py⟩ := seqV.vals I sy
    have n1 := rx.length
    have n2 := ry.length
    have ends : its.toArray[i]? = none ∨ jts.toArray[i]? = none := hend.imp (fun q => by simp; omega) fun q => by simp; omega
    refine stop_zipN ok (I.ok.hd hc) D hz tI tO j1 j2 px py ends fun h' hk => ⟨rfl, I.turnedL (t' := s.toks) (ch := [z, TI, TO, i1, i2]) (fun c o hb q => ?_) hf⟩
    obtain ⟨m1, m2, m3, m4⟩ := out5 hb
    exact hk c o m1 m2 m3 m4 q
  self := fun A i s Q E st h => wpAny_pyIter_zip st.1 h
def iZipN (K : PySem.W.Frag) (ta : TA) : TI := fun σ H R => ta σ H fun vs H1 => ∃ (l r : Bool) (a b : Addr) (xs ys : List V), vs = [.ref a, .ref b] ∧ pairOk l r ∧ seqV l K H1 a xs ∧ seqV r K H1 b ys ∧ R (ItzN l r K a b) H1
theorem pi_zipN {X : Cx} {e e2 : Expr} {ta : TA} {p pos tpos : Pos} {elts : List Expr} {kk : Nat} (hg : Gl X "zip") (hm : X.mg "zip" = none) (ha : PA X [e, e2] ta) (hs : starEach [e, e2] X.env = (false, eval e X.env) :: starEach [e2] X.env := by rfl) (hpl : (backTo pos (starEach [e2] X.env)).any (·.1) = false := by rfl) :
    PI X (.Tuple elts kk tpos) (.Call (.Name "zip" p) [e, e2] [] pos) (iZipN X.K ta) := by
  refine ⟨fun pins s σ H R I h => ?_⟩
  refine Call_ (ld_blt I hg hm PyProof.Rows.boot_zip (PyProof.Rows.callWith_type1 (thn (ha.run pos pins s σ H _ I h) fun us s1 ⟨vs, H1, I1, r1, q1⟩ => ?_) hs hpl))
  obtain ⟨l, r, a, b, xs, ys, rfl, ok, sx, sy, q⟩ := q1
  cases r1 with
  | cons ra rr =>
    cases rr with
    | cons rb rr =>
      cases rr
      cases ra
      cases rb
      have fr : ∀ c, s1.heap.objs.size ≤ c → FpOk X pins H1 c := fun c h => I1.fpOk h (I1.hok.fresh h)
      obtain ⟨its, rx, px⟩ := seqV.vals I1 sx
      obtain ⟨jts, ry, py⟩ := seqV.vals I1 sy
      refine make_zipN ok px py fun h' hz tI tO j1 j2 hk => wpAny_pyIter_zip hz ?_
      have J : Inv X pins σ H1 { s1 with heap := h' } := I1.kept (t' := s1.toks) hk
      refine ⟨s1.heap.objs.size + 4, [s1.heap.objs.size + 4, s1.heap.objs.size + 2, s1.heap.objs.size + 3, s1.heap.objs.size, s1.heap.objs.size + 1], _, _, H1, rfl, J, turn_zipN ok (PySem.W.ktu_apart s1.heap.objs.size a b px.lt py.lt), ⟨hz, tI, ⟨_, _, tO⟩, j1, j2⟩, fun c hc => ?_, q⟩
      exact of5 (p := FpOk X pins H1) hc (fr _ (Nat.le_add_right _ _)) (fr _ (Nat.le_add_right _ _)) (fr _ (Nat.le_add_right _ _)) (fr _ (Nat.le_refl _)) (fr _ (Nat.le_add_right _ _))
end
end RZ
namespace Dn
open PySem PySem.Spec PyProof.Rows L2
variable [Wd]

section
variable {X : Cx} {B : Addr → Prop} {S : Sc} {M M1 M2 M' N : MEnv} {a b c e tg iter : Expr} {es elts : List Expr} {f f1 f2 f3 : CE} {g h : CS} {m m1 m2 m3 mi : Md} {w w1 w2 w3 : Bool} {pos : Pos}
theorem b_all (hc : X.calm = true) : CB X (.builtin "all") allD .frz := CallR.impS (cr_all hc) fun vs H Q h sz => by
  obtain ⟨ds, r, hd, hr, k⟩ := h
  unfold allD at hr
  split at hr
  · obtain ⟨ns, h1, rfl⟩ := Option.map_eq_some_iff.mp hr
    obtain ⟨v, rfl, h⟩ := hd.one_inv
    cases h with
    | lst ha hb =>
      rw [asBools_rep h1 hb] at ha
      exact ⟨_, ns, rfl, ha, (k sz).val (.bl _)⟩
  · cases hr
/-- a call of a built-in function -/
theorem de_callB {x : Str} {id : String} {φ : List D → Option D} {fa : CA} {ms : List Md} {p : Pos} (hr : CB X (.builtin id) φ m) (hg : Gl X x) (hm : X.mg x = none) (hv : bootBuiltins x = some (.builtin id)) (ha : DA X B M w (e :: es) fa ms) (hn : x ≠ "__name__") (hdb : (x == ("__debug__" : Str)) = false)
    (he : starEach (e :: es) X.env = (false, eval e X.env) :: starEach es X.env) (hpl : (backTo pos (starEach es X.env)).any (·.1) = false) : DE X B M w (.Call (.Name x p) (e :: es) [] pos) (cN φ fa) m :=
  PE.mono (pe_callB hr hg hm hv ha hn hdb he hpl) fun σ H Q h => td_N σ H Q X.K h
/-- a call of a built-in class -/
theorem de_callTy {x : Str} {T : String} {φ : List D → Option D} {fa : CA} {ms : List Md} {p : Pos} (hr : CB X (.type T) φ m) (hg : Gl X x) (hm : X.mg x = none) (hv : bootBuiltins x = some (.type T)) (ha : DA X B M w (e :: es) fa ms) (hn : x ≠ "__name__") (hdb : (x == ("__debug__" : Str)) = false)
    (he : starEach (e :: es) X.env = (false, eval e X.env) :: starEach es X.env) (hpl : (backTo pos (starEach es X.env)).any (·.1) = false) : DE X B M w (.Call (.Name x p) (e :: es) [] pos) (cN φ fa) m :=
  PE.mono (pe_callTy hr hg hm hv ha hn hdb he hpl) fun σ H Q h => td_N σ H Q X.K h

def prI (x y : D) : D := .tuple [x, y]
def zipD : List D → Option (List D)
  | [.list xs, .list ys] => some (List.zipWith prI xs ys)
  | [.tuple xs, .tuple ys] => some (List.zipWith prI xs ys)
  | _ => none
theorem zipD_inv {as ds : List D} (h : zipD as = some ds) : ∃ xs ys, ds = List.zipWith prI xs ys ∧ (as = [.list xs, .list ys] ∨ as = [.tuple xs, .tuple ys]) := by
  unfold zipD at h
  split at h
  · cases h; exact ⟨_, _, rfl, .inl rfl⟩
  · cases h; exact ⟨_, _, rfl, .inr rfl⟩
  · cases h
def stM : Md → Bool | .frz => true | .sta => true | _ => false
theorem stM_wk {m : Md} (h : stM m = true) : wkM m = true := by cases m <;> first | rfl | cases h
theorem stM_pt {m : Md} (h : stM m = true) : ptM m = m := by cases m <;> first | rfl | cases h
theorem RRep.noP {K : PySem.W.Frag} {H : Hp} {B : Addr → Prop} {m : Md} {d : D} {v : V} {p q : Addr → Prop} (h : RRep K H B m d v p) (hm : stM m = true) : RRep K H B m d v q := by
  cases m <;> first | exact h | cases hm
/-- a new pair of two that are held by m -/
theorem RRep.pair {K : PySem.W.Frag} {H : Hp} {B : Addr → Prop} {m : Md} {d e : D} {x y : V} {its : List Value} {T : Addr} (hm : stM m = true) (hT : H T = none) (h1 : RRep K H B m d x Dn.noP) (h2 : RRep K H B m e y Dn.noP) : RRep K (upd H T (tupO its [x, y])) B m (prI d e) (.ref T) Dn.noP := by
  have ext : Ext H (upd H T (tupO its [x, y])) := Ext.new hT
  cases m with
  | frz => exact .tup (.inl ⟨_, upd_same⟩) (.cons (Rep.mono (rdF_keep fun a u e _ => ext a u e) h1) (.one (Rep.mono (rdF_keep fun a u e _ => ext a u e) h2)))
  | sta => exact .tup (.inl ⟨_, upd_same⟩) (.cons (Rep.mono (rdA_keep fun a u e _ => ext a u e) h1) (.one (Rep.mono (rdA_keep fun a u e _ => ext a u e) h2)))
  | _ => cases hm
theorem walk_zipL {K : PySem.W.Frag} {a b : Addr} {xs ys : List V} {n : Nat} (hn : n = min xs.length ys.length) : L2.Walk (RZ.ItzN true true K a b) n (fun H => SqL K H a xs ∧ SqL K H b ys) (YPairN (fun i => xs[i]?) (fun i => ys[i]?)) := by
  subst hn
  refine ⟨fun i _ hi q => ?_, fun _ q => ⟨xs, ys, q.1, q.2, by omega⟩, fun i H v H' _ q y => ?_⟩
  · have h1 : i < xs.length := by omega
    have h2 : i < ys.length := by omega
    exact ⟨xs, ys, xs[i], ys[i], q.1, q.2, by simp [h1], by simp [h2]⟩
  · obtain ⟨T, x, z, h1, h2, h3, h4, h5⟩ := y
    exact ⟨T, x, z, h1, h2, h3, h4 xs q.1, h5 ys q.2⟩
theorem walk_zipT {K : PySem.W.Frag} {a b : Addr} {xs ys : List V} {n : Nat} (hn : n = min xs.length ys.length) : L2.Walk (RZ.ItzN false false K a b) n (fun H => SqT K H a xs ∧ SqT K H b ys) (YPairN (fun i => xs[i]?) (fun i => ys[i]?)) := by
  subst hn
  refine ⟨fun i _ hi q => ?_, fun _ q => ⟨xs, ys, q.1, q.2, by omega⟩, fun i H v H' _ q y => ?_⟩
  · have h1 : i < xs.length := by omega
    have h2 : i < ys.length := by omega
    exact ⟨xs, ys, xs[i], ys[i], q.1, q.2, by simp [h1], by simp [h2]⟩
  · obtain ⟨T, x, z, h1, h2, h3, h4, h5⟩ := y
    exact ⟨T, x, z, h1, h2, h3, h4 xs q.1, h5 ys q.2⟩
theorem di_zip {e2 : Expr} {fa : CA} {p tpos : Pos} {kk : Nat} (hst : stM m = true) (hg : Gl X "zip") (hm : X.mg "zip" = none) (ha : DA X B M w [e, e2] fa [m, m]) (hs : starEach [e, e2] X.env = (false, eval e X.env) :: starEach [e2] X.env) (hpl : (backTo pos (starEach [e2] X.env)).any (·.1) = false) :
    DI X B M w (.Tuple elts kk tpos) (.Call (.Name "zip" p) [e, e2] [] pos) (rgV zipD fa) m := by
  have hsz : PA X [e, e2] (fun σ H Q => TA' X.K B M w fa [m, m] σ H fun vs H' => Sz X.K H' → Q vs H') := ⟨fun ps pins s σ H Q I q => thn (ha.run ps pins s σ H _ I q) fun us s' ⟨vs, H', I', r, q'⟩ => ⟨vs, H', I', r, q' (Sz.of I')⟩⟩
  refine PI.mono (RZ.pi_zipN hg hm hsz hs hpl) fun σ H Rr h => ?_
  obtain ⟨δ, o, ds, δ', hR, hf, k⟩ := h
  obtain ⟨⟨as, δ1⟩, h1, hf⟩ := Option.bind_eq_some_iff.mp hf
  obtain ⟨ds', h2, hf⟩ := Option.bind_eq_some_iff.mp hf
  cases hf
  refine ⟨δ, o, as, _, hR, h1, fun vs H1 o1 k1 R1 s1 a1 sz => ?_⟩
  have lz : ∀ (xs ys : List D), (List.zipWith prI xs ys).length = min xs.length ys.length := fun xs ys => List.length_zipWith
  have gz : ∀ (xs ys : List D) (i : Nat) (x y : D), xs[i]? = some x → ys[i]? = some y → (List.zipWith prI xs ys)[i]? = some (prI x y) := fun xs ys i x y e1 e2 => by
    rw [List.getElem?_zipWith, e1, e2]
  obtain ⟨xs, ys, rfl, rfl | rfl⟩ := zipD_inv h2
  · cases a1 with
    | cons ra rb =>
      cases rb with
      | cons rb rn =>
        cases rn
        obtain ⟨a, vs, rfl, hl, hG, hY⟩ := RRep.stay R1 (ra.noP (q := noP) hst) (fun _ z => z.elim) (stM_wk hst)
        obtain ⟨b, us, rfl, hl2, hG2, hY2⟩ := RRep.stay R1 (rb.noP (q := noP) hst) (fun _ z => z.elim) (stM_wk hst)
        have hG0 := hG H1 (Kp.refl _ _ _)
        have hG20 := hG2 H1 (Kp.refl _ _ _)
        have z1 := sz _ _ (.inl hG0)
        refine ⟨true, true, a, b, vs, us, rfl, .inl ⟨rfl, rfl⟩, hG0, hG20, k _ H1 o1 (fun H => SqL X.K H a vs ∧ SqL X.K H b us) (YPairN (fun i => vs[i]?) fun i => us[i]?) k1 R1 s1 (by rw [lz]; omega) (walk_zipL (by rw [lz, hl, hl2])) (fun H2 k2 => ⟨hG H2 k2, hG2 H2 k2⟩) fun i H2 x H3 k2 y => ?_⟩
        obtain ⟨T, x, z, rfl, hT, ⟨its, rfl⟩, e1, e2⟩ := y
        obtain ⟨d, hd, rd⟩ := hY H2 k2 i x e1
        obtain ⟨d2, hd2, rd2⟩ := hY2 H2 k2 i z e2
        rw [stM_pt hst] at rd rd2
        exact ⟨_, gz _ _ _ _ _ hd hd2, Ext.new hT, RRep.pair hst hT rd rd2⟩
  · cases a1 with
    | cons ra rb =>
      cases rb with
      | cons rb rn =>
        cases rn
        obtain ⟨a, vs, rfl, hl, hG, hY⟩ := RRep.stayT R1 (ra.noP (q := noP) hst) (stM_wk hst)
        obtain ⟨b, us, rfl, hl2, hG2, hY2⟩ := RRep.stayT R1 (rb.noP (q := noP) hst) (stM_wk hst)
        have hG0 := hG H1 (Kp.refl _ _ _)
        have hG20 := hG2 H1 (Kp.refl _ _ _)
        have z1 := sz _ _ (.inr hG0)
        refine ⟨false, false, a, b, vs, us, rfl, .inr (.inr ⟨rfl, rfl⟩), hG0, hG20, k _ H1 o1 (fun H => SqT X.K H a vs ∧ SqT X.K H b us) (YPairN (fun i => vs[i]?) fun i => us[i]?) k1 R1 s1 (by rw [lz]; omega) (walk_zipT (by rw [lz, hl, hl2])) (fun H2 k2 => ⟨hG H2 k2, hG2 H2 k2⟩) fun i H2 x H3 k2 y => ?_⟩
        obtain ⟨T, x, z, rfl, hT, ⟨its, rfl⟩, e1, e2⟩ := y
        obtain ⟨d, hd, rd⟩ := hY H2 k2 i x e1
        obtain ⟨d2, hd2, rd2⟩ := hY2 H2 k2 i z e2
        rw [stM_pt hst] at rd rd2
        exact ⟨_, gz _ _ _ _ _ hd hd2, Ext.new hT, RRep.pair hst hT rd rd2⟩

def tyN : D → String
  | .none => "NoneType"
  | .bool _ => "bool"
  | .int _ => "int"
  | .str _ => "str"
  | .list _ => "list"
  | .tuple _ => "tuple"
  | .dict _ => "dict"
/-- is a value of a type one of another -/
def isiB (T : String) (d : D) : Bool := match d with
  | .bool _ => T == "bool" || T == "int"
  | d => tyN d == T
def goodT (T : String) : Bool := T == "int" || T == "str" || T == "bool" || T == "tuple" || T == "list" || T == "dict"
theorem kit_all (T : String) (hT : goodT T = true) (d : D) : kitB (tyN d) T = some (isiB T d) := by
  simp only [goodT, Bool.or_eq_true, beq_iff_eq] at hT
  rcases hT with ((((rfl | rfl) | rfl) | rfl) | rfl) | rfl <;> cases d <;> (simp only [tyN, isiB]; decide +kernel)
def rIsiD (K : PySem.W.Frag) (T : String) : List V → Hp → VK → Prop := fun vs H Q => ∃ x d, vs = [x, .ty T] ∧ Rep (rdL K H) d x ∧ goodT T = true ∧ (∀ kvs, d ≠ .dict kvs) ∧ Q (.bl (isiB T d)) H
theorem call_isiD {T : String} : CallR X (.builtin "isinstance") (rIsiD X.K T) := by
  intro pins s σ H xs us Q I r h
  obtain ⟨x, d, rfl, hd, hT, nd, q⟩ := h
  obtain ⟨u, u2, rfl, ru, ru2⟩ := vals2 r
  cases (show u2 = Value.type T from ru2)
  have kk := kit_ty (K := X.K) (kit_all T hT d)
  have fin : ∀ tk, EP X pins σ Q (.bool (isiB T d)) { s with toks := tk } := fun tk => ⟨.bl _, H, I.tok _, rfl, q⟩
  cases hd with
  | non => cases (show u = Value.none from ru); exact PySem.W.kia_one PySem.W.kitx_none I.kIn True.intro kk (fun z => nomatch z) fin
  | bl y => cases (show u = Value.bool y from ru); exact PySem.W.kia_one PySem.W.kitx_bool I.kIn True.intro kk (fun z => nomatch z) fin
  | int i => obtain ⟨t, q⟩ := (show ∃ t, u = Value.int i t from ru); cases q; exact PySem.W.kia_one PySem.W.kitx_int I.kIn True.intro kk (fun z => nomatch z) fin
  | str y => obtain ⟨t, q⟩ := (show ∃ t, u = Value.str y t from ru); cases q; exact PySem.W.kia_one PySem.W.kitx_str I.kIn True.intro kk (fun z => nomatch z) fin
  | lst ha hb =>
    cases ru
    obtain ⟨its, rv, ⟨o, n, ho, hc, _, _⟩, _⟩ := I.list ha
    exact PySem.W.kia_one PySem.W.kitx_list I.kIn ⟨o, ho, hc⟩ kk (fun z => nomatch z) fin
  | tup ha hb =>
    cases ru
    obtain ⟨its, rv, ⟨o, ho, hc, _⟩, _⟩ := I.tuple (TupF.sq ha)
    exact PySem.W.kia_one PySem.W.kitx_tuple I.kIn ⟨o, ho, hc⟩ kk (fun z => nomatch z) fin
  | dic ha hb _ => exact absurd rfl (nd _)
end
end Dn
namespace Dn
open PySem PySem.Spec PyProof.Rows L2
variable [Wd]

section
variable {X : Cx} {B : Addr → Prop} {S : Sc} {M M1 M2 M' N : MEnv} {a b c e tg iter : Expr} {es elts : List Expr} {f f1 f2 f3 : CE} {g h : CS} {m m1 m2 m3 mi : Md} {w w1 w2 w3 : Bool} {pos : Pos}
def noDic : D → Bool | .dict _ => false | _ => true
/-- isinstance(x, T) with T a built-in type; not of dicts -/
def isiW (T : String) (f : CE) : CE := c1 (fun d => if noDic d = true then some (.bool (isiB T d)) else none) f
theorem de_isi {T : String} {x : Str} {p p2 : Pos} (hT : goodT T = true) (hg : Gl X "isinstance") (hm : X.mg "isinstance" = none) (hgx : Gl X x) (hmx : X.mg x = none) (hvx : bootBuiltins x = some (.type T)) (hnx : x ≠ "__name__") (hdx : (x == ("__debug__" : Str)) = false)
    (he : DE X B M w e f m) (hs : starEach [e, .Name x p2] X.env = (false, eval e X.env) :: starEach [.Name x p2] X.env) (hs2 : starEach [.Name x p2] X.env = [(false, eval (.Name x p2) X.env)]) (hpl : (backTo pos (starEach [.Name x p2] X.env)).any (·.1) = false) :
    DE X B M w (.Call (.Name "isinstance" p) [e, .Name x p2] [] pos) (isiW T f) .frz :=
  PE.mono (pe_callB call_isiD hg hm (by decide +kernel) (pa_cons he (pa_cons (pe_bltn (v := .ty T) hgx hmx hvx rfl hnx hdx) pa_nil hs2) hs) (by decide +kernel) (by decide +kernel) hs hpl) fun σ H Q h => by
    obtain ⟨δ, o, r, δ', hR, hf, k⟩ := h
    obtain ⟨d, h1, h2⟩ := c1_inv hf
    split at h2
    · rename_i nd
      cases h2
      refine ⟨δ, o, d, δ', hR, h1, fun v H1 o1 p1 k1 R1 s1 r1 f1 c1 => ?_⟩
      refine ⟨_, d, rfl, r1.lent, hT, fun kvs z => ?_, k _ H1 o1 noP k1 R1 s1 (.bl _) (fun _ z => z.elim) fun _ z => z.elim⟩
      subst z
      cases nd
    · cases h2

def par2S (i j : Nat) (f g : CE) : CS := fun δ => (f δ).bind fun p => (g p.2).bind fun q => (stS i p.1 q.2).bind fun δ1 => (stS j q.1 δ1).bind fun δ2 => some (.nx δ2)
theorem stS_inv {i : Nat} {d : D} {δ δ' : Env} (h : stS i d δ = some δ') : i < δ.length ∧ δ' = δ.set i (some d) := by
  unfold stS at h
  split at h
  · rename_i hi
    cases h
    exact ⟨hi, rfl⟩
  · cases h
theorem setFresh {o : Fp} {i : Nat} {m : Md} {p : Addr → Prop} {a : Addr} (h : (setO o i (fpOf m p)).any a) : o.any a ∨ p a := by
  rcases setO_any h with z | z
  · exact .inl z
  · unfold fpOf at z
    split at z
    · exact .inr z
    · exact z.elim
theorem ds_par2 {i j : Nat} {x y : Str} {px py pt : Pos} {kt k2 pt2} (hm1 : okS m1 = true) (hm2 : okS m2 = true) (hc : X.calm = true) (hN : X.N.Nodup) (hi : X.N[i]? = some x) (hj : X.N[j]? = some y) (hij : i ≠ j)
    (hx : X.env.scope.names.lookup x = some .local) (hy : X.env.scope.names.lookup y = some .local) (ha : DE X B M w1 a f1 m1) (hb : DE X B M w2 b f2 m2)
    (hs1 : starEach [a, b] X.env = (false, eval a X.env) :: starEach [b] X.env) (hs2 : starEach [b] X.env = [(false, eval b X.env)])
    (hw : swappedStores [.Tuple [.Name x px, .Name y py] kt pt] (.Tuple [a, b] k2 pt2) X.env = pure (some [x, y]))
    (hs : swapsWithSole [.Tuple [.Name x px, .Name y py] kt pt] (.Tuple [a, b] k2 pt2) pos.line X.env = pure false) :
    DS X B S M (.Assign [.Tuple [.Name x px, .Name y py] kt pt] (.Tuple [a, b] k2 pt2) pos) (par2S i j f1 f2) ((M.set i (some m1)).set j (some m2)) :=
  PS.mono (ps_par hc hN hi hj hij hx hy (pa_cons ha (pa_cons hb pa_nil hs2) hs1) hw hs) fun D' σ H q => by
    obtain ⟨δ, o, fl, hR, hf, k⟩ := q
    obtain ⟨⟨d1, δ1⟩, h1, hf⟩ := Option.bind_eq_some_iff.mp hf
    obtain ⟨⟨d2, δ2⟩, h2, hf⟩ := Option.bind_eq_some_iff.mp hf
    obtain ⟨δ3, h3, hf⟩ := Option.bind_eq_some_iff.mp hf
    obtain ⟨δ4, h4, hf⟩ := Option.bind_eq_some_iff.mp hf
    cases hf
    obtain ⟨hi3, rfl⟩ := stS_inv h3
    obtain ⟨hi4, rfl⟩ := stS_inv h4
    refine ⟨δ, o, d1, δ1, hR, h1, fun v1 H1 o1 p1 k1 R1 s1 r1 f1 c1 => ⟨δ1, o1, d2, δ2, R1, h2, fun v2 H2 o2 p2 k2 R2 s2 r2 f2 c2 => ⟨v1, v2, rfl, ?_⟩⟩⟩
    have n1 : ∀ a, p1 a → ¬ o2.any a := fun a z y => by
      rcases s2 a y with h | h
      · exact (f1 a z).2 h
      · obtain ⟨u, e, _⟩ := c1 a z
        rw [h] at e; cases e
    have r1' := RRep.keep (σ := σ) (M := M) R1 r1 k2 (fun a q => (f1 a q).2) (show okm m1 w2 = true by cases m1 <;> first | rfl | cases hm1)
    have c1' : ∀ a, p1 a → ∃ u, H2 a = some u ∧ Mut (some u) := fun a z => by
      obtain ⟨u, e, mu⟩ := c1 a z
      exact ⟨u, k2.keep a u e fun _ => (f1 a z).2, mu⟩
    have nb : ∀ a, H a = none → ¬ B a := fun a z y => by
      obtain ⟨u, e⟩ := hR.dom a y
      rw [z] at e; cases e
    have hl : σ.length = δ2.length := R2.len
    have R3 := R2.set r1' n1 c1' (fun a z => nb a (f1 a z).1) (by rw [hl]; exact hi3) hm1
    have R4 := R3.set (i := j) r2 (fun a z y => by
      rcases setFresh y with h | h
      · exact (f2 a z).2 h
      · obtain ⟨u, e, _⟩ := c1 a h
        rw [(f2 a z).1] at e; cases e) c2 (fun a z => nb a (k1.there a (f2 a z).1)) (by rw [List.length_set, hl]; rw [List.length_set] at hi4; exact hi4) hm2
    have kk : Kp true o H H2 := (k1.up fun _ => rfl).trans s1 (k2.up fun _ => rfl)
    refine k _ H2 _ kk (fun a z => ?_) R4
    rcases setFresh z with z | z
    · rcases setFresh z with z | z
      · exact s1.trans k1 s2 a z
      · exact .inr (f1 a z).1
    · exact .inr (k1.there a (f2 a z).1)
def par3S (i j l : Nat) (f g h : CE) : CS := fun δ => (f δ).bind fun p => (g p.2).bind fun q => (h q.2).bind fun r => (stS i p.1 r.2).bind fun δ1 => (stS j q.1 δ1).bind fun δ2 => (stS l r.1 δ2).bind fun δ3 => some (.nx δ3)
theorem ds_par3 {i j l : Nat} {x y z : Str} {px py pz pt : Pos} {kt k2 pt2} (hm1 : okS m1 = true) (hm2 : okS m2 = true) (hm3 : okS m3 = true) (hc : X.calm = true) (hN : X.N.Nodup) (hi : X.N[i]? = some x) (hj : X.N[j]? = some y) (hl : X.N[l]? = some z) (hij : i ≠ j) (hil : i ≠ l) (hjl : j ≠ l)
    (hx : X.env.scope.names.lookup x = some .local) (hy : X.env.scope.names.lookup y = some .local) (hz : X.env.scope.names.lookup z = some .local) (ha : DE X B M w1 a f1 m1) (hb : DE X B M w2 b f2 m2) (hc3 : DE X B M w3 c f3 m3)
    (hs1 : starEach [a, b, c] X.env = (false, eval a X.env) :: starEach [b, c] X.env) (hs2 : starEach [b, c] X.env = (false, eval b X.env) :: starEach [c] X.env) (hs3 : starEach [c] X.env = [(false, eval c X.env)])
    (hw : swappedStores [.Tuple [.Name x px, .Name y py, .Name z pz] kt pt] (.Tuple [a, b, c] k2 pt2) X.env = pure (some [x, y, z]))
    (hs : swapsWithSole [.Tuple [.Name x px, .Name y py, .Name z pz] kt pt] (.Tuple [a, b, c] k2 pt2) pos.line X.env = pure false) :
    DS X B S M (.Assign [.Tuple [.Name x px, .Name y py, .Name z pz] kt pt] (.Tuple [a, b, c] k2 pt2) pos) (par3S i j l f1 f2 f3) (((M.set i (some m1)).set j (some m2)).set l (some m3)) :=
  PS.mono (ps_par3 hc hN hi hj hl hij hil hjl hx hy hz (pa_cons ha (pa_cons hb (pa_cons hc3 pa_nil hs3) hs2) hs1) hw hs) fun D' σ H q => by
    obtain ⟨δ, o, fl, hR, hf, k⟩ := q
    obtain ⟨⟨d1, δ1⟩, h1, hf⟩ := Option.bind_eq_some_iff.mp hf
    obtain ⟨⟨d2, δ2⟩, h2, hf⟩ := Option.bind_eq_some_iff.mp hf
    obtain ⟨⟨d3, δ3⟩, h3, hf⟩ := Option.bind_eq_some_iff.mp hf
    obtain ⟨δ4, h4, hf⟩ := Option.bind_eq_some_iff.mp hf
    obtain ⟨δ5, h5, hf⟩ := Option.bind_eq_some_iff.mp hf
    obtain ⟨δ6, h6, hf⟩ := Option.bind_eq_some_iff.mp hf
    cases hf
    obtain ⟨hi4, rfl⟩ := stS_inv h4
    obtain ⟨hi5, rfl⟩ := stS_inv h5
    obtain ⟨hi6, rfl⟩ := stS_inv h6
    refine ⟨δ, o, d1, δ1, hR, h1, fun v1 H1 o1 p1 k1 R1 s1 r1 f1 c1 => ⟨δ1, o1, d2, δ2, R1, h2, fun v2 H2 o2 p2 k2 R2 s2 r2 f2 c2 => ⟨δ2, o2, d3, δ3, R2, h3, fun v3 H3 o3 p3 k3 R3 s3 r3 f3 c3 => ⟨v1, v2, v3, rfl, ?_⟩⟩⟩⟩
    have n1 : ∀ a, p1 a → ¬ o2.any a := fun a z y => by
      rcases s2 a y with h | h
      · exact (f1 a z).2 h
      · obtain ⟨u, e, _⟩ := c1 a z
        rw [h] at e; cases e
    have c1' : ∀ a, p1 a → ∃ u, H2 a = some u ∧ Mut (some u) := fun a z => by
      obtain ⟨u, e, mu⟩ := c1 a z
      exact ⟨u, k2.keep a u e fun _ => (f1 a z).2, mu⟩
    have n1' : ∀ a, p1 a → ¬ o3.any a := fun a z y => by
      rcases s3 a y with h | h
      · exact n1 a z h
      · obtain ⟨u, e, _⟩ := c1' a z
        rw [h] at e; cases e
    have c1'' : ∀ a, p1 a → ∃ u, H3 a = some u ∧ Mut (some u) := fun a z => by
      obtain ⟨u, e, mu⟩ := c1' a z
      exact ⟨u, k3.keep a u e fun _ => n1 a z, mu⟩
    have n2 : ∀ a, p2 a → ¬ o3.any a := fun a z y => by
      rcases s3 a y with h | h
      · exact (f2 a z).2 h
      · obtain ⟨u, e, _⟩ := c2 a z
        rw [h] at e; cases e
    have c2' : ∀ a, p2 a → ∃ u, H3 a = some u ∧ Mut (some u) := fun a z => by
      obtain ⟨u, e, mu⟩ := c2 a z
      exact ⟨u, k3.keep a u e fun _ => (f2 a z).2, mu⟩
    have ok1 : ∀ w, okm m1 w = true := fun w => by cases m1 <;> first | rfl | cases hm1
    have ok2 : ∀ w, okm m2 w = true := fun w => by cases m2 <;> first | rfl | cases hm2
    have r1' := RRep.keep (σ := σ) (M := M) R1 r1 k2 (fun a q => (f1 a q).2) (ok1 _)
    have r1'' := RRep.keep (σ := σ) (M := M) R2 r1' k3 n1 (ok1 _)
    have r2' := RRep.keep (σ := σ) (M := M) R2 r2 k3 (fun a q => (f2 a q).2) (ok2 _)
    have nb : ∀ a, H a = none → ¬ B a := fun a z y => by
      obtain ⟨u, e⟩ := hR.dom a y
      rw [z] at e; cases e
    have hl : σ.length = δ3.length := R3.len
    have R4 := R3.set r1'' n1' c1'' (fun a z => nb a (f1 a z).1) (by rw [hl]; exact hi4) hm1
    have R5 := R4.set (i := j) r2' (fun a z y => by
      rcases setFresh y with h | h
      · exact n2 a z h
      · obtain ⟨u, e, _⟩ := c1 a h
        rw [(f2 a z).1] at e; cases e) c2' (fun a z => nb a (k1.there a (f2 a z).1)) (by rw [List.length_set, hl]; rw [List.length_set] at hi5; exact hi5) hm2
    have R6 := R5.set (i := l) r3 (fun a z y => by
      rcases setFresh y with h | h
      · rcases setFresh h with h | h
        · exact (f3 a z).2 h
        · obtain ⟨u, e, _⟩ := c1' a h
          rw [(f3 a z).1] at e; cases e
      · obtain ⟨u, e, _⟩ := c2 a h
        rw [(f3 a z).1] at e; cases e) c3 (fun a z => nb a (k1.there a (k2.there a (f3 a z).1))) (by rw [List.length_set, List.length_set, hl]; rw [List.length_set, List.length_set] at hi6; exact hi6) hm3
    have s12 := s1.trans k1 s2
    have k12 : Kp true o H H2 := (k1.up fun _ => rfl).trans s1 (k2.up fun _ => rfl)
    have kk : Kp true o H H3 := k12.trans s12 (k3.up fun _ => rfl)
    refine k _ H3 _ kk (fun a z => ?_) R6
    rcases setFresh z with z | z
    · rcases setFresh z with z | z
      · rcases setFresh z with z | z
        · exact s12.trans k12 s3 a z
        · exact .inr (f1 a z).1
      · exact .inr (k1.there a (f2 a z).1)
    · exact .inr (k12.there a (f3 a z).1)

inductive Dsp (X : Cx) (pos : Pos) : List (Option Expr) → List Expr → List (Str × D) → List (Str × V) → Prop
  | nil : Dsp X pos [] [] [] []
  | cons {x : Str} {d : D} {v : V} {k e : Expr} {ks : List (Option Expr)} {es : List Expr} {kds : List (Str × D)} {kvs : List (Str × V)} : PE X k (tC (.str x)) → PE X e (tC v) → (∀ r : Rdr, Rep r d v) → Dsp X pos ks es kds kvs → Dsp X pos (some k :: ks) (e :: es) ((x, d) :: kds) ((x, v) :: kvs)
theorem Dsp.run {ks : List (Option Expr)} {es : List Expr} {kds : List (Str × D)} {kvs : List (Str × V)} (h : Dsp X pos ks es kds kvs) : ∃ trs, PPs X pos ks es trs ∧ ∀ σ H Q, Q (kvs.map fun kv => (V.str kv.1, kv.2)) H → tPairs trs σ H Q := by
  induction h with
  | nil => exact ⟨[], pps_nil, fun _ _ _ q => q⟩
  | cons h1 h2 h3 h4 ih =>
    obtain ⟨trs, p, q⟩ := ih
    exact ⟨_, pps_cons h1 h2 p, fun σ H Q z => q σ H _ z⟩
def lkD : List (Str × D) → Str → Option D
  | [], _ => none
  | (k, d) :: r, x => match lkD r x with
    | some e => some e
    | none => if x = k then some d else none
theorem lk_merge {r : Rdr} {x : Str} {d : D} {ks : List (Option Expr)} {es : List Expr} {kds : List (Str × D)} {kvs : List (Str × V)} (h : Dsp X pos ks es kds kvs) : ∀ acc : List (Key × V),
    (lkD kds x = none → valV (mergeK acc (kvs.map fun kv => (Sum.inr kv.1, kv.2))) (Sum.inr x) = valV acc (Sum.inr x)) ∧
    (lkD kds x = some d → ∃ v, valV (mergeK acc (kvs.map fun kv => (Sum.inr kv.1, kv.2))) (Sum.inr x) = some v ∧ Rep r d v) := by
  induction h with
  | nil => exact fun acc => ⟨fun _ => rfl, fun z => nomatch z⟩
  | @cons y d' v k e ks es kds kvs h1 h2 h3 h4 ih =>
    intro acc
    obtain ⟨i1, i2⟩ := ih (putK acc (Sum.inr y) v)
    constructor
    · intro z
      simp only [lkD] at z
      split at z
      · cases z
      · rename_i e0
        split at z
        · cases z
        · rename_i ne
          refine (i1 e0).trans ?_
          rw [valV_put, if_neg (fun q => ne (Sum.inr.inj q))]
    · intro z
      simp only [lkD] at z
      split at z
      · rename_i e0 e1
        cases z
        exact i2 e1
      · rename_i e0
        split at z
        · rename_i ne
          cases z
          refine ⟨v, (i1 e0).trans ?_, h3 r⟩
          rw [valV_put, if_pos (by rw [ne])]
        · cases z
def dgV (kds : List (Str × D)) (f : CE) : CE := c1 (fun d => match d with | .str x => lkD kds x | _ => none) f
theorem de_dgV {ks : List (Option Expr)} {kds : List (Str × D)} {kvs : List (Str × V)} {p2 : Pos} (hu : X.A.units + 64 < cLine) (hd : Dsp X p2 ks es kds kvs) (hall : ks.all (·.isSome) = true) (hl : ks.length = es.length) (h0 : ks ≠ []) (h15 : ks.length ≤ 15) (hs : NoSl e) (he : DE X B M w e f m) :
    DE X B M w (.Subscript (.Dict ks es p2) e pos) (dgV kds f) .frz := by
  obtain ⟨trs, hp, run⟩ := hd.run
  have hlk : ks.length = kvs.length := by
    clear hall hl h0 h15 run hp he
    induction hd with
    | nil => rfl
    | cons _ _ _ _ ih => exact congrArg (· + 1) ih
  refine PE.mono (pe_dget (by omega) (pe_disp hp hall hl h0 h15) he hs) fun σ H Q h => ?_
  obtain ⟨δ, o, r, δ', hR, hf, k⟩ := h
  obtain ⟨d, h1, h2⟩ := c1_inv hf
  cases d <;> first | (cases h2; done) | skip
  rename_i x
  intro p hpn
  have x1 : Ext H (upd H p (.dK [])) := Ext.new hpn
  refine run _ _ _ ⟨upd_same, kvs.map fun kv => (Sum.inr kv.1, kv.2), by rw [List.map_map]; rfl, by rw [List.length_map, ← hlk]; exact h15, ?_⟩
  have x2 : Ext H (upd (upd H p (.dK [])) p (.dK (mergeK [] (kvs.map fun kv => (Sum.inr kv.1, kv.2))))) := fun a u e => by
    have ne : a ≠ p := ne_of_none e hpn
    rw [upd_ne ne, upd_ne ne]
    exact e
  have np : ¬ o.any p := hR.fresh hpn
  refine ⟨δ, o, _, δ', hR.keep x2, h1, fun v H1 o1 p1 k1 R1 s1 r1 f1 c1 => ?_⟩
  obtain ⟨v', e', rv⟩ := (lk_merge (r := rdF X.K H1) (x := x) hd []).2 h2
  have hp1 := k1.keep p _ upd_same fun _ => np
  cases r1.lent
  refine ⟨p, v', rfl, ?_, k v' H1 o1 noP ⟨fun a u e n => k1.keep a u (x2 a u e) n, fun a n => x2.free (k1.there a n)⟩ R1 (fun a z => (s1 a z).imp id fun z => x2.free z) rv (fun _ z => z.elim) fun _ z => z.elim⟩
  rw [← e']
  exact DGet.k (k := Sum.inr x) hp1
theorem pc_neg {i : Int} {j : Nat} {p : Pos} : PE X (.UnaryOp .USub (.Constant (.int i) j p) pos) (tC (.int (-i))) := PE.mono (pe_un un_neg pe_int) fun σ H Q h => ⟨i, rfl, h⟩
end

def revD : D → Option D
  | .list ds => if immutAll ds = true then some (.list ds.reverse) else none
  | .tuple ds => if immutAll ds = true then some (.tuple ds.reverse) else none
  | _ => none
theorem adjust_rev (n : Nat) : Builtin.Slice.sliceAdjust none none (-1) (n : Int) = ((n : Int) - 1, -1) := by
  unfold Builtin.Slice.sliceAdjust
  simp
theorem places_rev (n : Nat) : Builtin.Slice.slicePlaces ((n : Int) - 1) (-1) (-1) = n := by
  unfold Builtin.Slice.slicePlaces
  have h1 : ¬ ((-1 : Int) > 0) := by omega
  have h2 : (- -1 : Int) = 1 := by decide
  simp only [h1, if_false, h2, Int.ediv_one]
  split <;> omega
theorem pick_rev (xs : Array Value) : ((List.range xs.size).filterMap fun (m : Nat) => xs[(((xs.size : Int) - 1) + (m : Int) * (-1)).toNat]?).toArray = xs.toList.reverse.toArray := by
  have e : (fun (m : Nat) => xs[(((xs.size : Int) - 1) + (m : Int) * (-1)).toNat]?) = (fun (k : Nat) => xs[k]?) ∘ fun m : Nat => (((xs.size : Int) - 1) + (m : Int) * (-1)).toNat := rfl
  rw [e, ← List.filterMap_map]
  have e2 : (List.range xs.size).map (fun m : Nat => (((xs.size : Int) - 1) + (m : Int) * (-1)).toNat) = (List.range xs.size).reverse := by
    rw [← PySem.W.krv_range]
    refine List.map_congr_left fun k hk => ?_
    have := List.mem_range.mp hk
    omega
  rw [e2, List.filterMap_reverse, PySem.W.krv_all]
section
variable {prog : Program} {w : World} {A : Around} {E : Value → Shared → Prop} {s : Shared}
theorem applied_rev {sl : Addr} {vl vu vs : Value} {n : Nat} {Q : Int × Int × Nat → Shared → Prop} (hs : s.heap.IsSliceOf sl vl vu vs) (pl : IsPart vl none) (pu : IsPart vu none) (ps : IsPart vs (some (-1)))
    (h : Q ((n : Int) - 1, -1, n) s) : wpAny (model prog w) A (Builtin.Slice.sliceApplied (.ref sl) (pure (n : Int))) Q E s := by
  obtain ⟨os, hos, hcs, hds⟩ := id hs
  unfold Builtin.Slice.sliceApplied Builtin.Slice.sliceFields
  refine wpAny_bind (wpAny_bind (wpAny_field hos hds (x := vl) rfl (wpAny_bind (wpAny_field hos hds (x := vu) rfl (wpAny_bind (wpAny_field hos hds (x := vs) rfl (wpAny_pure ?_)))))))
  refine wpAny_bind (HT.slicePart_ ps ?_)
  show wpAny _ _ (if ((-1 : Int) == 0) = true then _ else _) _ _ s
  rw [if_neg (by decide)]
  refine wpAny_bind (HT.slicePart_ pl (wpAny_bind (HT.slicePart_ pu (wpAny_bind (wpAny_pure ?_)))))
  show wpAny _ _ (match Builtin.Slice.sliceAdjust none none (-1) (n : Int) with | (lo, hi) => pure (lo, (-1 : Int), Builtin.Slice.slicePlaces lo hi (-1))) _ _ s
  rw [adjust_rev n]
  show wpAny _ _ (pure (((n : Int) - 1), (-1 : Int), Builtin.Slice.slicePlaces ((n : Int) - 1) (-1) (-1))) _ _ s
  rw [places_rev]
  exact wpAny_pure h
theorem item_tupRev {t sl : Addr} {items : Array Value} {vl vu vs : Value} {Q : Value → Shared → Prop} (ht : IsTup s.heap t items) (hs : s.heap.IsSliceOf sl vl vu vs) (pl : IsPart vl none) (pu : IsPart vu none) (ps : IsPart vs (some (-1)))
    (h : Q (.ref s.heap.objs.size) { s with heap := s.heap.push { cls := .type "tuple", data := .seq items.toList.reverse.toArray } })
    (hsz : items.size ≤ sizeLine) : wpAny (model prog w) A (getItem (.ref t) (.ref sl)) Q E s := by
  have hz : sizeOk (.seq items.toList.reverse.toArray) := by
    show items.toList.reverse.toArray.size ≤ sizeLine
    rw [List.size_toArray, List.length_reverse, Array.length_toList]
    exact hsz
  obtain ⟨os, hos, hcs, hds⟩ := id hs
  have hTs : s.TypeIs (.ref sl) "slice" := ⟨os, hos, hcs⟩
  unfold getItem
  try with_reducible refine wpAny_holding ?_
  first | refine wpAny_bind (wpAny_pure ?_) | skip
  refine wpAny_bind (wpAny_sequenceKey ht.typeIs (by decide) ?_)
  refine wpAny_bind (wpAny_callSpecial?_slot (name := Str.ofString "__getitem__") ht.typeIs PyProof.Rows.slot_tuple_getitem
    (wpAny_call_entry PyProof.Rows.slot_tuple_getitem ht.typeIs entry_tuple_getitem ?_ (args_tuple_getitem _ _)))
  show wpAny _ _ (Builtin.Tuple.tupleItemsOf (.ref t) >>= _) _ _ s
  refine wpAny_bind (tupleItemsOf_ ht ?_)
  refine wpAny_bind (wpAny_typeOf hTs ?_)
  rw [if_pos (by decide)]
  refine wpAny_bind (applied_rev hs pl pu ps ?_)
  have hno : ¬ ((((items.size : Int) - 1) == 0 && (-1 : Int) == 1 && items.size == items.size) = true) := by
    intro q
    rw [Bool.and_eq_true, Bool.and_eq_true] at q
    exact absurd q.1.2 (by decide)
  show wpAny _ _ (if (((items.size : Int) - 1) == 0 && (-1 : Int) == 1 && items.size == items.size) = true then _ else _) _ _ s
  rw [if_neg hno, pick_rev]
  first
    | exact wpAny_bind (m := Builtin.Tuple.tupleExact _) (wpAny_newObj_type (wpAny_pure ⟨_, rfl, wpAny_pure h⟩) hz)
    | exact wpAny_bind (m := Builtin.Tuple.tupleExact _) (wpAny_newObj_type (wpAny_bind (wpAny_pure (wpAny_pure ⟨_, rfl, wpAny_pure h⟩))) hz)
    | exact wpAny_bind (wpAny_bind (m := Builtin.Tuple.tupleExact _) (wpAny_newObj_type (wpAny_pure (wpAny_pure ⟨_, rfl, wpAny_pure h⟩)) hz))
    | exact wpAny_bind (wpAny_bind (m := Builtin.Tuple.tupleExact _) (wpAny_newObj_type (wpAny_pure ⟨_, rfl, wpAny_pure h⟩) hz))
end
section
variable {X : Cx} {B : Addr → Prop} {M : MEnv} {e : Expr} {f : CE} {m : Md} {w : Bool} {pos : Pos}
def tRv (K : PySem.W.Frag) (te : TE) : TE := fun σ H Q => te σ H fun x H1 => (∃ a xs, x = .ref a ∧ SqL K H1 a xs ∧ ∀ p, H1 p = none → Q (.ref p) (upd H1 p (.lst xs.reverse))) ∨ ∃ a xs, x = .ref a ∧ SqT K H1 a xs ∧ newT H1 xs.reverse Q
theorem pe_rv {te : TE} {k : Nat} {p1 p2 p3 : Pos} (he : PE X e te) : PE X (.Subscript e (.Slice none none (some (.UnaryOp .USub (.Constant (.int 1) k p1) p2)) p3) pos) (tRv X.K te) := by
  refine ⟨fun pins s σ H Q I h => ?_⟩
  refine Subscript_ (thn (he.run pins s σ H _ I h) fun v s1 ⟨x, H1, I1, r1, q1⟩ => ?_)
  have hst : PO X (some (.UnaryOp .USub (.Constant (.int 1) k p1) p2)) (tPart (tUn (rU fun i => .int (-i)) (tC (.int 1)))) := po_some (pe_un un_neg pe_int)
  refine wpAny_Slice (thn (po_none.run pins s1 σ H1 (fun o H2 => o = none ∧ H2 = H1) I1 ⟨rfl, rfl⟩) fun vl s2 ⟨l, H2, I2, pl, el, e2⟩ => ?_)
  subst el e2
  refine thn (po_none.run pins s2 σ H2 (fun o H3 => o = none ∧ H3 = H2) I2 ⟨rfl, rfl⟩) fun vu s3 ⟨u, H3, I3, pu, eu, e3⟩ => ?_
  subst eu e3
  refine thn (hst.run pins s3 σ H3 (fun o H4 => o = some (-1) ∧ H4 = H3) I3 ⟨1, rfl, -1, rfl, rfl, rfl⟩) fun vs s4 ⟨o, H4, I4, ps, eo, e4⟩ => ?_
  subst eo e4
  have I5 : Inv X pins σ H4 { s4 with heap := s4.heap.push { cls := .type "slice", data := .fields #[vl, vu, vs] } } := I4.kept (t' := s4.toks) fun b ob q => Heap.get?_push_of_some _ q
  rcases q1 with ⟨a, xs, ex, hx, q⟩ | ⟨a, xs, ex, hx, q⟩
  · subst ex
    cases r1
    obtain ⟨its, r, ht, hz⟩ := I5.list hx
    have hlen := r.length
    show wpAny (model X.prog X.w) X.A (subscriptTail e (.Slice none none (some (.UnaryOp .USub (.Constant (.int 1) k p1) p2)) p3) (.ref a) (.ref s4.heap.objs.size)) (EP X pins σ Q) X.xe { s4 with heap := s4.heap.push { cls := .type "slice", data := .fields #[vl, vu, vs] } }
    refine tail_any (ops := [.ref a, .ref s4.heap.objs.size]) ht.isList.typeIs (PySem.slot_list_getitem.lookup) ?_ (by with_unfolding_all rfl)
    refine wpAny_getItem_list_slice ht.isList (Heap.IsSliceOf.new _ vl vu vs) pl pu ps (by decide) ?_ (by rw [List.size_toArray]; omega)
    rw [PySem.W.krv_pick]
    refine ⟨.ref _, _, I5.laid (t' := s4.toks) (o := .lst xs.reverse) (fun b ob q => Heap.get?_push_of_some _ q) (Nat.le_refl _) ?_, rfl, q _ (I5.hok.fresh (Nat.le_refl _))⟩
    exact ⟨by rw [List.length_reverse]; exact hz, _, 0, r.reverse, Heap.get?_push_size _ rfl⟩
  · subst ex
    cases r1
    obtain ⟨its, r, ht, hz⟩ := I5.tuple hx
    have hlen := r.length
    show wpAny (model X.prog X.w) X.A (subscriptTail e (.Slice none none (some (.UnaryOp .USub (.Constant (.int 1) k p1) p2)) p3) (.ref a) (.ref s4.heap.objs.size)) (EP X pins σ Q) X.xe { s4 with heap := s4.heap.push { cls := .type "slice", data := .fields #[vl, vu, vs] } }
    refine tail_any (ops := [.ref a, .ref s4.heap.objs.size]) ht.typeIs (PyProof.Rows.slot_tuple_getitem.lookup) ?_ (by with_unfolding_all rfl)
    refine item_tupRev ht (Heap.IsSliceOf.new _ vl vu vs) pl pu ps ?_ (by rw [List.size_toArray]; omega)
    have J := tup_laid (t' := s4.toks) (h' := (s4.heap.push { cls := .type "slice", data := .fields #[vl, vu, vs] }).push (tupB its.reverse)) I5 (fun _ _ => Heap.get?_push_of_some _) (Nat.le_refl _) r.reverse (by rw [List.length_reverse]; exact hz) (Heap.get?_push_size _ rfl)
    exact ⟨.ref _, _, J, rfl, q _ _ I5.fresh⟩
def rvV (f : CE) : CE := c1 revD f
theorem de_rev {k : Nat} {p1 p2 p3 : Pos} (he : DE X B M w e f m) : DE X B M w (.Subscript e (.Slice none none (some (.UnaryOp .USub (.Constant (.int 1) k p1) p2)) p3) pos) (rvV f) .own := PE.mono (pe_rv he) fun σ H Q h => by
  obtain ⟨δ, o, r, δ', hR, hf, kk⟩ := h
  obtain ⟨d, h1, h2⟩ := c1_inv hf
  refine ⟨δ, o, d, δ', hR, h1, fun v H1 o1 p k1 R1 s1 r1 f1 c1 => ?_⟩
  have fin : Res X.K .own r H1 Q := fun z H4 p4 k4 r4 f4 c4 => kk z H4 o1 p4 (k1.trans s1 (Kp.all k4)) (R1.keep k4) s1 (r4 B) (fun a q => ⟨k1.there a (f4 a q), R1.fresh (f4 a q)⟩) c4
  cases r1.lent with
  | lst ha hb =>
    simp only [revD] at h2
    split at h2
    · rename_i hi
      cases h2
      exact .inl ⟨_, _, rfl, ha, fun p hp => fin.lst hp (immAll_F hb hi).reverse⟩
    · cases h2
  | tup ha hb =>
    simp only [revD] at h2
    split at h2
    · rename_i hi
      cases h2
      exact .inr ⟨_, _, rfl, TupF.sq ha, fun p its hp => fin.tup hp (immAll_F hb hi).reverse⟩
    · cases h2
  | _ => cases h2
end
end Dn
namespace Dn
open PySem PySem.Spec PyProof.Rows L2
variable [Wd]

/-- the slots at the entry -/
def ent (n : Nat) (ds : List D) : Env := ds.map some ++ List.replicate (n - ds.length) none
def entM (n : Nat) (ms : List Md) : MEnv := ms.map some ++ List.replicate (n - ms.length) none
/-- what a def computes, by its body's denotation -/
def fnF (g : CS) (n m : Nat) : List D → Option D := fun ds => if ds.length = m then (g (ent n ds)).bind fun fl => match fl with | .nx _ => some .none | .rt d _ => some d | _ => none else none
def pmOk : List Md → Bool
  | [] => true
  | .frz :: r => pmOk r
  | .sta :: r => pmOk r
  | _ => false
def reOk : Md → Bool | .frz => true | .own => true | _ => false
theorem pm_tl {m : Md} {ms : List Md} (h : pmOk (m :: ms) = true) : pmOk ms = true := by
  cases m <;> first | exact h | cases h
theorem ARep.get {K : PySem.W.Frag} {H : Hp} {B : Addr → Prop} : ∀ {ms : List Md} {ds : List D} {vs : List V} {i : Nat} {m : Md} {d : D}, ARep K H B ms ds vs → pmOk ms = true → ms[i]? = some m → ds[i]? = some d → ∃ v, vs[i]? = some v ∧ SRep K H B m d v (fun _ => False) ∧ (m = .frz ∨ m = .sta)
  | _, _, _, _, _, _, .nil, _, e, _ => by simp at e
  | m0 :: _, _, _, 0, m, d, .cons a b, hm, e1, e2 => by
    simp at e1 e2
    subst e1 e2
    cases m0 with
    | frz => exact ⟨_, rfl, a, .inl rfl⟩
    | sta => exact ⟨_, rfl, a, .inr rfl⟩
    | _ => cases hm
  | m0 :: _, _, _, i + 1, m, d, .cons a b, hm, e1, e2 => by
    obtain ⟨v, h1, h2⟩ := ARep.get (i := i) b (pm_tl hm) (by simpa using e1) (by simpa using e2)
    exact ⟨v, by simpa using h1, h2⟩
theorem ARep.len2 {K : PySem.W.Frag} {H : Hp} {B : Addr → Prop} : ∀ {ms : List Md} {ds : List D} {vs : List V}, ARep K H B ms ds vs → ds.length = vs.length ∧ ms.length = vs.length
  | _, _, _, .nil => ⟨rfl, rfl⟩
  | _, _, _, .cons _ b => ⟨congrArg (· + 1) b.len2.1, congrArg (· + 1) b.len2.2⟩
theorem ent_get {n : Nat} {ds : List D} {i : Nat} {d : D} (h : (ent n ds)[i]? = some (some d)) : ds[i]? = some d := by
  unfold ent at h
  by_cases hi : i < ds.length
  · rw [List.getElem?_append_left (by rw [List.length_map]; exact hi), List.getElem?_map] at h
    cases e : ds[i]? with
    | none => rw [e] at h; cases h
    | some x => rw [e] at h; cases h; rfl
  · rw [List.getElem?_append_right (by rw [List.length_map]; omega), List.getElem?_replicate] at h
    split at h <;> cases h
theorem entM_get {n : Nat} {ds : List Md} {i : Nat} {d : Md} (h : (entM n ds)[i]? = some (some d)) : ds[i]? = some d := by
  unfold entM at h
  by_cases hi : i < ds.length
  · rw [List.getElem?_append_left (by rw [List.length_map]; exact hi), List.getElem?_map] at h
    cases e : ds[i]? with
    | none => rw [e] at h; cases h
    | some x => rw [e] at h; cases h; rfl
  · rw [List.getElem?_append_right (by rw [List.length_map]; omega), List.getElem?_replicate] at h
    split at h <;> cases h
theorem start_get {N : List Str} {vs : List V} {i : Nat} {v : V} (h : vs[i]? = some v) : (L2.start N vs)[i]? = some (some v) := by
  unfold L2.start
  have hi : i < vs.length := (List.getElem?_eq_some_iff.mp h).1
  rw [List.getElem?_append_left (by rw [List.length_map]; exact hi), List.getElem?_map, h] <;> rfl
theorem reOk_any {K : PySem.W.Frag} {H : Hp} {B : Addr → Prop} {mr : Md} {d : D} {v : V} {p : Addr → Prop} (hm : reOk mr = true) (h : RRep K H B mr d v p) : ∀ B', RRep K H B' mr d v p := by
  cases mr with
  | frz => exact fun _ => h
  | own => exact fun _ => h
  | _ => cases hm
theorem reOk_none {K : PySem.W.Frag} {H : Hp} {mr : Md} {p : Addr → Prop} (hm : reOk mr = true) : ∀ B', RRep K H B' mr .none .non p := by
  cases mr with
  | frz => exact fun _ => .non
  | own => exact fun _ => Rep.non
  | _ => cases hm

section
variable {P : Program} {w : World} {K : PySem.W.Frag} {mg : Str → Option Value} {base : Heap}
/-- THE RULE for a def that writes nothing that stood ahead of it -/
theorem fn_ok {x qual : Str} {st : Stmt} {f : Addr} {fd : FuncData} {N ps : List Str} {k : Nat} {ms : List Md} {mr : Md} {g : CS} {M' : MEnv} (F : Fun K x qual st f fd) (Sc0 : FnScope N ps (defScope st)) (hms : pmOk ms = true) (hmr : reOk mr = true) (hl : ms.length = ps.length)
    (hbody : ∀ (cdv : Value) (A : Around) (outer : List PySem.Env) (s : Shared) (H : Hp) (E : XK) (B : Addr → Prop), Room k (A.deeper (envOfC qual (defScope st) s.heap.objs.size f cdv)) →
      DSs (cxOf CX0 P w K mg base N qual (defScope st) f cdv A outer s H E).nox B ⟨mr, [], [], []⟩ (entM N.length ms) (defBody st) g M') : FnD P w K mg base (k + 1) f fd ps ms mr (fnF g N.length ps.length) := by
  refine F.ok Sc0 (fun vs H Q E h => ?_) (fun cdv A outer s H vs Q E hr h => ?_)
  · obtain ⟨ds, r, a, _, _⟩ := h
    rw [← a.len2.2, hl]
  · obtain ⟨ds, r, a, hf, kq⟩ := h
    refine ⟨_, hbody cdv A outer s H E (fun a => ∃ u, H a = some u) hr, ?_⟩
    unfold fnF at hf
    split at hf
    · obtain ⟨fl, h1, hf⟩ := Option.bind_eq_some_iff.mp hf
      have hlen := a.len2.1
      have noO : ∀ a, ¬ Fp.any (fun _ _ => False) a := fun a ⟨_, z⟩ => z
      have ex : ∀ {H' : Hp}, Kp true (fun _ _ => False) H H' → Ext H H' := fun k a u e => k.keep a u e fun _ => noO a
      refine ⟨ent N.length ds, fun _ _ => False, fl, ⟨?_, fun _ _ _ z => z.elim, fun _ _ z => z.elim, fun a z => (noO a z).elim, fun _ z => z, fun i m d e1 e2 => ?_⟩, h1, ?_⟩
      · unfold L2.start ent
        rw [List.length_append, List.length_append, List.length_map, List.length_map, List.length_replicate, List.length_replicate, hlen]
      · obtain ⟨v, e, sr, _⟩ := a.get hms (entM_get e1) (ent_get e2)
        exact ⟨v, start_get e, sr⟩
      · cases fl with
        | nx δ' =>
          cases hf
          exact fun σ' H' o' k' s' r' => kq .non H' noP (ex k') (fun B' => reOk_none hmr B') (fun _ z => z.elim) fun _ z => z.elim
        | rt d δ' =>
          cases hf
          refine fun v σ' H' o' p k' s' r' rr fp cp => kq v H' p (ex k') (reOk_any hmr rr) (fun a q => ?_) cp
          rcases (fp a q).1 with z | z
          · exact (noO a z).elim
          · exact z
        | bk _ => cases hf
        | ct _ => cases hf
    · cases hf

def spIo (K : PySem.W.Frag) (ms : List Md) (mr : Md) (F : List D → List D → Option (D × List D)) : Sp := fun vs H Q _ => ∃ a ds0 ds vs' r ds1, vs = .ref a :: vs' ∧ Own K H (.list ds0) (.ref a) (fun b => b = a) ∧ ARep K H (fun _ => False) ms ds vs' ∧ F ds0 ds = some (r, ds1) ∧
  ∀ z H' p, (∀ b u, H b = some u → b ≠ a → H' b = some u) → (∀ b, H' b = none → H b = none) → Own K H' (.list ds1) (.ref a) (fun b => b = a) → (∀ B, RRep K H' B mr r z p) → (∀ b, p b → H b = none) → (∀ b, p b → ∃ u, H' b = some u ∧ Mut (some u)) → Q z H'
abbrev FnI (P : Program) (w : World) (K : PySem.W.Frag) (mg : Str → Option Value) (base : Heap) (k : Nat) (f : Addr) (fd : FuncData) (ps : List Str) (ms : List Md) (mr : Md) (F : List D → List D → Option (D × List D)) : Prop :=
  FnOk P w K mg base CX0 k f fd ps (spIo K ms mr F)
def io0 (δ : Env) : Option (List D) := match δ[(0 : Nat)]? with | some (some (.list ds)) => some ds | _ => none
def fnI (g : CS) (n m : Nat) : List D → List D → Option (D × List D) := fun ds0 ds => if ds.length + 1 = m then (g (ent n (.list ds0 :: ds))).bind fun fl => match fl with | .nx δ => (io0 δ).map fun l => (.none, l) | .rt d δ => (io0 δ).map fun l => (d, l) | _ => none else none
theorem io0_inv {δ : Env} {ds : List D} (h : io0 δ = some ds) : δ[0]? = some (some (.list ds)) := by
  unfold io0 at h
  split at h
  · rename_i e
    cases h
    exact e
  · cases h
def frzAll : List Md → Bool
  | [] => true
  | .frz :: r => frzAll r
  | _ => false
theorem frzAll_pm : ∀ {ms : List Md}, frzAll ms = true → pmOk ms = true ∧ ∀ m ∈ ms, m = .frz
  | [], _ => ⟨rfl, fun _ h => nomatch h⟩
  | .frz :: r, h => ⟨(frzAll_pm (ms := r) h).1, fun m hm => by
    rcases List.mem_cons.mp hm with e | e
    · exact e
    · exact (frzAll_pm (ms := r) h).2 m e⟩
theorem fn_io {x qual : Str} {st : Stmt} {f : Addr} {fd : FuncData} {N ps : List Str} {k : Nat} {ms : List Md} {mr : Md} {g : CS} (F : Fun K x qual st f fd) (Sc0 : FnScope N ps (defScope st)) (hms : frzAll ms = true) (hmr : reOk mr = true) (hl : ms.length + 1 = ps.length) (hN : ms.length + 1 ≤ N.length)
    (hbody : ∀ (a : Addr) (cdv : Value) (A : Around) (outer : List PySem.Env) (s : Shared) (H : Hp) (E : XK) (B : Addr → Prop), Room k (A.deeper (envOfC qual (defScope st) s.heap.objs.size f cdv)) →
      DSs (cxOf CX0 P w K mg base N qual (defScope st) f cdv A outer s H E).nox B ⟨mr, [], [], [some (.io a)]⟩ (entM N.length (.io a :: ms)) (defBody st) g [some (.io a)]) : FnI P w K mg base (k + 1) f fd ps ms mr (fnI g N.length ps.length) := by
  refine F.ok Sc0 (fun vs H Q E h => ?_) (fun cdv A outer s H vs Q E hr h => ?_)
  · obtain ⟨a, ds0, ds, vs', r, ds1, rfl, _, ha, _⟩ := h
    rw [List.length_cons, ← ha.len2.2, hl]
  · obtain ⟨a, ds0, ds, vs', r, ds1, rfl, ho, ha, hf, kq⟩ := h
    refine ⟨_, hbody a cdv A outer s H E (fun b => b ≠ a ∧ ∃ u, H b = some u) hr, ?_⟩
    obtain ⟨a', xs, ea, _, hH, hx⟩ := ho
    cases ea
    unfold fnI at hf
    split at hf
    · obtain ⟨fl, h1, hf⟩ := Option.bind_eq_some_iff.mp hf
      have hlen := ha.len2.1
      have hoa : ∀ b, Fp.any (fun i b => i = 0 ∧ b = a) b ↔ b = a := fun b => ⟨fun ⟨_, _, z⟩ => z, fun z => ⟨0, rfl, z⟩⟩
      have ex : ∀ {H' : Hp}, Kp true (fun i b => i = 0 ∧ b = a) H H' → ∀ b u, H b = some u → b ≠ a → H' b = some u := fun k b u e n => k.keep b u e fun _ z => n ((hoa b).mp z)
      have last : ∀ {δ' : Env} {σ' : L2.St} {H' : Hp} {o' : Fp} {l : List D}, io0 δ' = some l → R K (fun b => b ≠ a ∧ ∃ u, H b = some u) H' σ' δ' [some (.io a)] o' → Own K H' (.list l) (.ref a) (fun b => b = a) ∧ o'.any a := fun {δ' σ' H' o' l} e r => by
        obtain ⟨v, _, q, ev⟩ := r.at_ 0 (.io a) _ rfl (io0_inv e)
        obtain ⟨a', ys, e1, e2, e3, e4⟩ := q
        rw [ev] at e1
        cases e1
        exact ⟨⟨a, ys, rfl, rfl, e3, e4⟩, 0, e2⟩
      refine ⟨ent N.length (.list ds0 :: ds), fun i b => i = 0 ∧ b = a, fl, ⟨?_, fun i j b h1 h2 => h1.1.trans h2.1.symm, fun i b h => ⟨.lst xs, by rw [h.2]; exact hH, trivial⟩, fun b z y => y.1 ((hoa b).mp z), fun b z => z.2, fun i m d e1 e2 => ?_⟩, h1, ?_⟩
      · unfold L2.start ent
        simp only [List.length_append, List.length_map, List.length_replicate, List.length_cons, hlen]
      · have e1' := entM_get e1
        have e2' := ent_get e2
        cases i with
        | zero =>
          simp at e1' e2'
          subst e1' e2'
          exact ⟨.ref a, start_get rfl, ⟨a, xs, rfl, ⟨rfl, rfl⟩, hH, hx⟩, rfl⟩
        | succ i =>
          obtain ⟨v, e, sr, hm⟩ := ha.get (frzAll_pm hms).1 (by simpa using e1') (by simpa using e2')
          refine ⟨v, start_get (by simpa using e), ?_⟩
          have em : m = .frz := (frzAll_pm hms).2 m (List.mem_of_getElem? (by simpa using e1'))
          subst em
          exact sr
      · cases fl with
        | nx δ' =>
          obtain ⟨l, e, hf⟩ := Option.map_eq_some_iff.mp hf
          cases hf
          exact fun σ' H' o' k' s' r' => kq .non H' noP (ex k') k'.there (last e r').1 (fun B' => reOk_none hmr B') (fun _ z => z.elim) fun _ z => z.elim
        | rt d δ' =>
          obtain ⟨l, e, hf⟩ := Option.map_eq_some_iff.mp hf
          cases hf
          refine fun v σ' H' o' p k' s' r' rr fp cp => ?_
          obtain ⟨q1, q2⟩ := last e r'
          refine kq v H' p (ex k') k'.there q1 (reOk_any hmr rr) (fun b q => ?_) cp
          rcases (fp b q).1 with z | z
          · rw [(hoa b).mp z] at q
            exact absurd q2 (fp a q).2
          · exact z
        | bk _ => cases hf
        | ct _ => cases hf
    · cases hf
end

section
variable {K : PySem.W.Frag} {B : Addr → Prop} {H H' : Hp} {σ : L2.St} {δ : Env} {M : MEnv} {o : Fp}
theorem R.io (r : R K B H σ δ M o) {i : Nat} {m : Md} {ds ds' : List D} {a : Addr} {vs : List V} (hM : M[i]? = some (some m)) (hw : m.fl = true) (hd : δ[i]? = some (some (.list ds))) (hσ : σ[i]? = some (some (.ref a))) (ho : o i a) (hH : H a = some (.lst vs))
    (k : ∀ b u, H b = some u → b ≠ a → H' b = some u) (hn : Own K H' (.list ds') (.ref a) (fun b => b = a)) : R K B H' σ (δ.set i (some (.list ds'))) M o := by
  obtain ⟨a', vs', ea, _, hH', hr⟩ := hn
  cases ea
  have x1 : Ext H (fun b => if b = a then H a else H' b) := fun b u e => by
    show (if b = a then H a else H' b) = some u
    by_cases n : b = a
    · rw [if_pos n, ← n]; exact e
    · rw [if_neg n]; exact k b u e n
  have e2 : L2.upd (fun b => if b = a then H a else H' b) a (.lst vs') = H' := by
    funext b
    by_cases n : b = a
    · rw [n, upd_same, hH']
    · rw [upd_ne n]
      show (if b = a then H a else H' b) = H' b
      rw [if_neg n]
  have hF : (rdF K H').le (rdF K fun b => if b = a then H a else H' b) := rdF_keep fun b u e mu => by
    have n : b ≠ a := fun z => by
      rw [z, hH'] at e
      cases e
      exact mu trivial
    show (if b = a then H a else H' b) = some u
    rw [if_neg n]; exact e
  have := (r.keep x1).wr hM hw hd hσ ho (show (if a = a then H a else H' a) = some (.lst vs) by rw [if_pos rfl]; exact hH) (RepAll.mono hF hr)
  rw [e2] at this
  exact this
end
section
variable {X : Cx} {B : Addr → Prop} {M : MEnv} {w : Bool} {e : Expr} {es : List Expr} {m mo : Md} {pos p : Pos}
def ioV (i : Nat) (F : List D → List D → Option (D × List D)) (fa : CA) : CE := fun δ => match δ[i]? with
  | some (some (.list _)) => (fa δ).bind fun q => match q.2[i]? with
    | some (some (.list ds0)) => (F ds0 q.1).bind fun r => some (r.1, q.2.set i (some (.list r.2)))
    | _ => none
  | _ => none
theorem ioV_inv {i : Nat} {F : List D → List D → Option (D × List D)} {fa : CA} {δ δ' : Env} {r : D} (h : ioV i F fa δ = some (r, δ')) : ∃ dsa as δ1 ds0 ds1, δ[i]? = some (some (.list dsa)) ∧ fa δ = some (as, δ1) ∧ δ1[i]? = some (some (.list ds0)) ∧ F ds0 as = some (r, ds1) ∧ δ' = δ1.set i (some (.list ds1)) := by
  unfold ioV at h
  split at h
  · rename_i dsa e1
    obtain ⟨⟨as, δ1⟩, h1, h⟩ := Option.bind_eq_some_iff.mp h
    split at h
    · rename_i ds0 e2
      obtain ⟨⟨r', ds1⟩, h2, h⟩ := Option.bind_eq_some_iff.mp h
      cases h
      exact ⟨dsa, as, δ1, ds0, ds1, e1, h1, e2, h2, rfl⟩
    · cases h
  · cases h
theorem ARep.toF {K : PySem.W.Frag} {H : Hp} {B B' : Addr → Prop} : ∀ {ms : List Md} {ds : List D} {vs : List V}, ARep K H B ms ds vs → frzAll ms = true → ARep K H B' ms ds vs
  | _, _, _, .nil, _ => .nil
  | .frz :: _, _, _, .cons (p := p) a b, h => .cons (p := p) a (ARep.toF b h)
  | .len :: _, _, _, .cons _ _, h => by cases h
  | .sta :: _, _, _, .cons _ _, h => by cases h
  | .own :: _, _, _, .cons _ _, h => by cases h
  | .io _ :: _, _, _, .cons _ _, h => by cases h
  | .bx :: _, _, _, .cons _ _, h => by cases h
  | .bio _ _ :: _, _, _, .cons _ _, h => by cases h
  | .bc _ :: _, _, _, .cons _ _, h => by cases h
end
end Dn
namespace Dn
open PySem PySem.Spec PyProof.Rows L2
variable [Wd]

/-- a def of the text as it stands behind the top -/
structure Df (K : PySem.W.Frag) (mg : Str → Option Value) (x : Str) (st : Stmt) (ps : List Str) : Prop where
  ex : ∃ (f : Addr) (fd : FuncData), Fun K x x st f fd ∧ mg x = some (.ref f) ∧ Binds K fd ps []
/-- a def that may be called by its name, by what it computes -/
structure Cl (P : Program) (w : World) (K : PySem.W.Frag) (mg : Str → Option Value) (base : Heap) (k : Nat) (x : Str) (ms : List Md) (mr : Md) (F : List D → Option D) : Prop where
  ex : ∃ (f : Addr) (fd : FuncData) (ps : List Str), FnD P w K mg base k f fd ps ms mr F ∧ mg x = some (.ref f) ∧ PySem.W.keepIn K (.ref f) = true ∧ Binds K fd ps []
/-- .. that writes its first argument -/
structure ClI (P : Program) (w : World) (K : PySem.W.Frag) (mg : Str → Option Value) (base : Heap) (k : Nat) (x : Str) (ms : List Md) (mr : Md) (F : List D → List D → Option (D × List D)) : Prop where
  ex : ∃ (f : Addr) (fd : FuncData) (ps : List Str), FnI P w K mg base k f fd ps ms mr F ∧ mg x = some (.ref f) ∧ PySem.W.keepIn K (.ref f) = true ∧ Binds K fd ps []
section
variable {P : Program} {w : World} {K : PySem.W.Frag} {mg : Str → Option Value} {base : Heap}
theorem Cl.of {x : Str} {st : Stmt} {N ps : List Str} {k : Nat} {ms : List Md} {mr : Md} {g : CS} {M' : MEnv} (F : Df K mg x st ps) (Sc0 : FnScope N ps (defScope st)) (hms : pmOk ms = true) (hmr : reOk mr = true) (hl : ms.length = ps.length)
    (hbody : ∀ (f : Addr) (cdv : Value) (A : Around) (outer : List PySem.Env) (s : Shared) (H : Hp) (E : XK) (B : Addr → Prop), Room k (A.deeper (envOfC x (defScope st) s.heap.objs.size f cdv)) →
      DSs (cxOf CX0 P w K mg base N x (defScope st) f cdv A outer s H E).nox B ⟨mr, [], [], []⟩ (entM N.length ms) (defBody st) g M') : Cl P w K mg base (k + 1) x ms mr (fnF g N.length ps.length) := by
  obtain ⟨f, fd, hf, hm, hb⟩ := F.ex
  exact ⟨f, fd, ps, fn_ok hf Sc0 hms hmr hl (hbody f), hm, hf.kp, hb⟩
theorem ClI.of {x : Str} {st : Stmt} {N ps : List Str} {k : Nat} {ms : List Md} {mr : Md} {g : CS} (F : Df K mg x st ps) (Sc0 : FnScope N ps (defScope st)) (hms : frzAll ms = true) (hmr : reOk mr = true) (hl : ms.length + 1 = ps.length) (hN : ms.length + 1 ≤ N.length)
    (hbody : ∀ (f a : Addr) (cdv : Value) (A : Around) (outer : List PySem.Env) (s : Shared) (H : Hp) (E : XK) (B : Addr → Prop), Room k (A.deeper (envOfC x (defScope st) s.heap.objs.size f cdv)) →
      DSs (cxOf CX0 P w K mg base N x (defScope st) f cdv A outer s H E).nox B ⟨mr, [], [], [some (.io a)]⟩ (entM N.length (.io a :: ms)) (defBody st) g [some (.io a)]) : ClI P w K mg base (k + 1) x ms mr (fnI g N.length ps.length) := by
  obtain ⟨f, fd, hf, hm, hb⟩ := F.ex
  exact ⟨f, fd, ps, fn_io hf Sc0 hms hmr hl hN (hbody f), hm, hf.kp, hb⟩
/-- nothing is promised: a def no deeper -/
theorem Cl.zero {x : Str} {st : Stmt} {ps : List Str} {ms : List Md} {mr : Md} (F : Df K mg x st ps) : Cl P w K mg base 0 x ms mr (fun _ => none) := by
  obtain ⟨f, fd, hf, hm, hb⟩ := F.ex
  refine ⟨f, fd, ps, ⟨fun vs H Q E h => ?_, fun A outer s H args us vs Q E _ _ _ _ h => ?_⟩, hm, hf.kp, hb⟩
  · obtain ⟨_, _, _, z, _⟩ := h
    cases z
  · obtain ⟨_, _, _, z, _⟩ := h
    cases z
theorem Cl.up {x : Str} {j k : Nat} {ms : List Md} {mr : Md} {F : List D → Option D} (c : Cl P w K mg base j x ms mr F) (h : j ≤ k) : Cl P w K mg base k x ms mr F := by
  obtain ⟨f, fd, ps, a, b, d, e⟩ := c.ex
  exact ⟨f, fd, ps, a.mono h, b, d, e⟩
end
theorem allF {ms : List Md} (h : frzAll ms = true := by rfl) : ∀ m ∈ ms, m = .frz := (frzAll_pm h).2
theorem hr9 {k : Nat} {A : Around} (r : Room k A) : A.units + 9 < cLine := by
  have := r.un
  omega
theorem hr65 {k : Nat} {A : Around} (r : Room k A) : A.units + 65 < cLine := by
  have := r.un
  omega
section
variable {X : Cx} {B : Addr → Prop} {M : MEnv} {w : Bool} {e : Expr} {es : List Expr} {m mo : Md} {pos p : Pos} {k j : Nat} {x : Str}
theorem de_c {ms ns : List Md} {fa : CA} {F : List D → Option D} (c : Cl X.prog X.w X.K X.mg X.base j x ns mo F) (hr : Room k X.A) (hj : j ≤ k) (hw : awOk ms ns = true) (hg : Gl X x) (ha : DA X B M w (e :: es) fa ms)
    (hdb : (x == ("__debug__" : Str)) = false) (he : starEach (e :: es) X.env = (false, eval e X.env) :: starEach es X.env) (hpl : (backTo pos (starEach es X.env)).any (·.1) = false) :
    DE X B M w (.Call (.Name x p) (e :: es) [] pos) (cN F fa) mo := by
  obtain ⟨f, fd, ps, G, hm, kp, b⟩ := c.ex
  exact de_call G (hr.mono hj) hw hg hm kp b ha hdb he hpl
/-- the name in the i-th slot -/
theorem eV (i : Nat) (hM : M[i]? = some (some m)) (hN : X.N[i]? = some x) (hv : Vis X.env.scope x) (hd : (x == ("__debug__" : Str)) = false) (hcd : (x == ("__classdict__" : Str)) = false) (hb : m.vb = true := by rfl) : DE X B M false (.Name x pos) (rd i) (rdM m) := de_var hM (pe_var hN hv hd hcd) hb
theorem gN {i : Nat} {mi : Md} (hm : okS mi = true) (hN : X.N.Nodup) (hi : X.N[i]? = some x) (hx : Loc X.env.scope x) (hf : X.fn x = true ∨ X.env.scope.names.lookup x = some .local) : DG X B M mi (.Name x pos) (stS i) (M.set i (some mi)) [i] := dg_name hm (pg_name hN hi hx hf)
variable {S : Sc} {M' : MEnv} {f : CE} {apos cpos px : Pos} {i : Nat}
theorem sApp (hM : M[i]? = some (some m)) (hwr : m.fl = true) (hN : X.N[i]? = some x) (hv : Vis X.env.scope x) (hd : (x == ("__debug__" : Str)) = false) (hcd : (x == ("__classdict__" : Str)) = false) (he : DE X B M w e f .frz) (hs0 : starEach [e] X.env = [(false, eval e X.env)])
    (hbm : ∀ {te : TE} {t : TA}, PE X (.Name x px) te → PA X [e] t → PE X (.Call (.Attribute (.Name x px) "append" apos) [e] [] cpos) (tBM X.K "list" rAppend te t))
    (hs : swapsWith (.Call (.Attribute (.Name x px) "append" apos) [e] [] cpos) none pos.line X.env = pure false) :
    DS X B S M (.Expr (.Call (.Attribute (.Name x px) "append" apos) [e] [] cpos) pos) (apS i f) M := ds_append hM hwr (pe_var hN hv hd hcd) he (pa_cons he pa_nil hs0) hbm hs
/-- x.extend(new list) -/
def exL (i : Nat) (f : CE) : CS := fun δ => match δ[i]? with
  | some (some (.list _)) => (f δ).bind fun p => match p.1, p.2[i]? with
    | .list es, some (some (.list ds)) => if ds.length + es.length ≤ sizeLine then some (.nx (p.2.set i (some (.list (ds ++ es))))) else none
    | _, _ => none
  | _ => none
theorem exL_inv {i : Nat} {f : CE} {δ : Env} {fl : Fl} (h : exL i f δ = some fl) : ∃ ds0 es δ1 ds, δ[i]? = some (some (.list ds0)) ∧ f δ = some (.list es, δ1) ∧ δ1[i]? = some (some (.list ds)) ∧ ds.length + es.length ≤ sizeLine ∧ fl = .nx (δ1.set i (some (.list (ds ++ es)))) := by
  unfold exL at h
  split at h
  · rename_i ds0 e0
    obtain ⟨⟨d, δ1⟩, h1, h⟩ := Option.bind_eq_some_iff.mp h
    dsimp only at h
    split at h
    · rename_i es ds e2
      split at h
      · rename_i hz
        cases h
        exact ⟨ds0, es, δ1, ds, e0, h1, e2, hz, rfl⟩
      · cases h
    · cases h
  · cases h
theorem sExt (hM : M[i]? = some (some m)) (hwr : m.fl = true) (hN : X.N[i]? = some x) (hv : Vis X.env.scope x) (hd : (x == ("__debug__" : Str)) = false) (hcd : (x == ("__classdict__" : Str)) = false) (he : DE X B M w e f .own) (hs0 : starEach [e] X.env = [(false, eval e X.env)])
    (hbm : ∀ {te : TE} {t : TA}, PE X (.Name x px) te → PA X [e] t → PE X (.Call (.Attribute (.Name x px) "extend" apos) [e] [] cpos) (tBM X.K "list" rExtend te t))
    (hs : swapsWith (.Call (.Attribute (.Name x px) "extend" apos) [e] [] cpos) none pos.line X.env = pure false) :
    DS X B S M (.Expr (.Call (.Attribute (.Name x px) "extend" apos) [e] [] cpos) pos) (exL i f) M := PS.mono (ps_expr (hbm (pe_var hN hv hd hcd) (pa_cons he pa_nil hs0)) hs) fun D' σ H q => by
  obtain ⟨δ, o, fl, hR, hf, k⟩ := q
  obtain ⟨ds0, es, δ1, ds, h0, h1, h2, hz, rfl⟩ := exL_inv hf
  obtain ⟨a0, vs0, e0, ho0, hH0, _⟩ := hR.ownL hM hwr h0
  refine ⟨.ref a0, e0, .inl ⟨rfl, vs0, .inl (.inl hH0)⟩, δ, o, .list es, δ1, hR, h1, fun v H1 o1 p1 k1 R1 s1 r1 f1 c1 => ?_⟩
  obtain ⟨a, vs, ev, ho, hH, hv2⟩ := R1.ownL hM hwr h2
  rw [e0] at ev
  cases ev
  obtain ⟨b, ys, rfl, _, hb, hy⟩ := r1
  refine ⟨a0, b, vs, ys, rfl, rfl, hH, hb, by rw [← hv2.length, ← hy.length]; exact hz, ?_⟩
  exact k σ _ o1 ((k1.up fun _ => rfl).trans s1 (Kp.wr ⟨i, ho⟩ hH)) s1 (R1.wr hM hwr h2 e0 ho hH (RepAll.append hv2 hy))
end
end Dn
namespace Dn
open PySem PySem.Spec PyProof.Rows L2
variable [Wd]

theorem Df.mk1 {K : PySem.W.Frag} {h : Heap} {mg : Str → Option Value} {x : Str} {st : Stmt} {ps : List Str} {f : Addr} {oc : Value} {od an : Option Addr} {osl : Array (Option Value)} {kV doc pm cdv ct : Value} (X : K.In h) (G : h.Ns mainGlobals mg)
    (a : PySem.W.nsIn K mainGlobals x = some (some (.ref f))) (l : K.lookup f = some ⟨oc, od, .func (PySem.W.fnOf x x (defArgs st) (defBody st) (defScope st) .none kV doc pm an cdv ct), osl⟩) (c : PySem.W.codeIn K cdv x = true) (k : PySem.W.keepIn K (.ref f) = true)
    (hb : ∀ (kV doc pm : Value) (an : Option Addr) (cdv ct : Value) (us : List Value), us.length = ps.length → bindArgs (PySem.W.fnOf x x (defArgs st) (defBody st) (defScope st) .none kV doc pm an cdv ct) ⟨us, []⟩ = pure (ps.zip us)) : Df K mg x st ps :=
  ⟨f, _, fun_mk l c k, PySem.W.mg_of X G a, (fun_mk l c k).binds hb⟩
mutual
/-- data among the module's objects -/
inductive KD (K : PySem.W.Frag) : D → Value → Prop
  | non : KD K .none .none
  | bl (b : Bool) : KD K (.bool b) (.bool b)
  | int (i : Int) (t : Tok) : KD K (.int i) (.int i t)
  | str (x : Str) (t : Tok) : KD K (.str x) (.str x t)
  | tup {a : Addr} {us : List Value} {n : Nat} {osl : Array (Option Value)} {ds : List D} : K.lookup a = some ⟨.type "tuple", none, .seq us.toArray n, osl⟩ → KDs K ds us → KD K (.tuple ds) (.ref a)
inductive KDs (K : PySem.W.Frag) : List D → List Value → Prop
  | nil : KDs K [] []
  | cons {d : D} {ds : List D} {u : Value} {us : List Value} : KD K d u → KDs K ds us → KDs K (d :: ds) (u :: us)
end
mutual
/-- no sequence in it is longer than a list may be -/
def szD : D → Bool
  | .tuple ds => decide (ds.length ≤ sizeLine) && szAll ds
  | .list _ => false
  | .dict _ => false
  | .none => true
  | .bool _ => true
  | .int _ => true
  | .str _ => true
def szAll : List D → Bool
  | [] => true
  | d :: ds => szD d && szAll ds
end
mutual
theorem KD.rep {K : PySem.W.Frag} : ∀ {d : D} {u : Value}, KD K d u → szD d = true → ∃ v, RelV v u ∧ ∀ H, Rep (rdF K H) d v
  | _, _, .non, _ => ⟨.non, rfl, fun _ => .non⟩
  | _, _, .bl b, _ => ⟨.bl b, rfl, fun _ => .bl b⟩
  | _, _, .int i t, _ => ⟨.int i, ⟨t, rfl⟩, fun _ => .int i⟩
  | _, _, .str x t, _ => ⟨.str x, ⟨t, rfl⟩, fun _ => .str x⟩
  | _, _, .tup (a := a) (us := us) (n := n) l h, hz => by
    simp only [szD, Bool.and_eq_true, decide_eq_true_eq] at hz
    obtain ⟨vs, r, k⟩ := KDs.rep h hz.2
    have hl : us.length = vs.length := (Vals.length r).symm
    refine ⟨.ref a, rfl, fun H => .tup (vs := vs) (.inr ⟨_, _, n, l, rfl, rfl, rfl, ?_, ?_⟩) (k H)⟩
    · rw [List.size_toArray, hl, ← (k H).length]
      exact hz.1
    · exact r
theorem KDs.rep {K : PySem.W.Frag} : ∀ {ds : List D} {us : List Value}, KDs K ds us → szAll ds = true → ∃ vs, Vals vs us ∧ ∀ H, RepAll (rdF K H) ds vs
  | _, _, .nil, _ => ⟨[], .nil, fun _ => .nil⟩
  | _, _, .cons a b, hz => by
    simp only [szAll, Bool.and_eq_true] at hz
    obtain ⟨v, r1, k1⟩ := KD.rep a hz.1
    obtain ⟨vs, r2, k2⟩ := KDs.rep b hz.2
    exact ⟨v :: vs, .cons r1 r2, fun H => .cons (k1 H) (k2 H)⟩
end
theorem Kon.of {K : PySem.W.Frag} {h : Heap} {mg : Str → Option Value} {x : Str} {d : D} {u : Value} (X : K.In h) (G : h.Ns mainGlobals mg) (a : PySem.W.nsIn K mainGlobals x = some (some u)) (r : KD K d u) (hz : szD d = true) : Kon K mg x d := by
  obtain ⟨v, r1, k⟩ := r.rep hz
  exact ⟨u, v, PySem.W.mg_of X G a, r1, k⟩
/-- the law's promise -/
def spLaw (K : PySem.W.Frag) : Sp := fun vs H Q _ => ∃ (a : Addr) (ns : List Int), vs = [.ref a] ∧ Only H ∧ SqL K H a (ns.map V.int) ∧ ∀ H', Q (.bl true) H'
theorem rep_ints {r : Rdr} : ∀ ns : List Int, RepAll r (ns.map PyData.int) (ns.map V.int)
  | [] => .nil
  | n :: ns => .cons (.int n) (rep_ints ns)
theorem law_imp {P : Program} {w : World} {K : PySem.W.Frag} {mg : Str → Option Value} {base : Heap} {k : Nat} {f : Addr} {fd : FuncData} {F : List D → Option D} (h : FnD P w K mg base k f fd ["script"] [.frz] .frz F) (hF : ∀ ns : List Int, F [.list (ns.map .int)] = some (.bool true)) : FnOk P w K mg base CX0 k f fd ["script"] (spLaw K) :=
  h.imp fun vs H Q E q => by
    obtain ⟨a, ns, rfl, hO, hS, hQ⟩ := q
    refine ⟨[.list (ns.map .int)], .bool true, .cons (p := noP) (.lst ?_ (rep_ints ns)) .nil, hF ns, fun z H' p _ r _ _ => ?_⟩
    · rcases hS with (hS | ⟨o, hS⟩) | hS
      · rcases hO a with z | ⟨o, xs, z⟩
        · rw [hS] at z; cases z
        · rw [hS] at z; cases z
      · exact .inl ⟨o, hS⟩
      · exact .inr hS
    · have r1 := r noP
      cases (show Rep (rdF K H') (.bool true) z from r1)
      exact hQ H'
end Dn
namespace Dn
open PySem PySem.Spec PyProof.Rows L2
variable [Wd]

def pB (a c : Addr) : Addr → Prop := fun b => b = a ∨ b = c
/-- a def whose first argument is a box, which it may write -/
def spBx (K : PySem.W.Frag) (ms : List Md) (mr : Md) (F : List D → List D → Option (D × List D)) : Sp := fun vs H Q _ => ∃ a c ds0 ds vs' r ds1, vs = .ref a :: vs' ∧ BoxAt H (.list ds0) (.ref a) (pB a c) a c ∧ ARep K H (fun _ => False) ms ds vs' ∧ F ds0 ds = some (r, ds1) ∧
  ∀ z H' p, (∀ b u, H b = some u → ¬ pB a c b → H' b = some u) → (∀ b, H' b = none → H b = none) → BoxAt H' (.list ds1) (.ref a) (pB a c) a c → (∀ B, RRep K H' B mr r z p) → (∀ b, p b → H b = none) → (∀ b, p b → ∃ u, H' b = some u ∧ Mut (some u)) → Q z H'
abbrev FnB (P : Program) (w : World) (K : PySem.W.Frag) (mg : Str → Option Value) (base : Heap) (k : Nat) (f : Addr) (fd : FuncData) (ps : List Str) (ms : List Md) (mr : Md) (F : List D → List D → Option (D × List D)) : Prop :=
  FnOk P w K mg base CX0 k f fd ps (spBx K ms mr F)
theorem BoxAt.lsts {H : Hp} {d : D} {v : V} {p : Addr → Prop} {a c : Addr} (h : BoxAt H d v p a c) : ∃ u w, H a = some (.lst u) ∧ H c = some (.lst w) := by
  obtain ⟨cells, x, y, _, _, _, _, _, h1, h2⟩ := h
  exact ⟨_, _, h1, h2⟩
theorem BoxAt.ref {H : Hp} {d : D} {v : V} {p : Addr → Prop} {a c : Addr} (h : BoxAt H d v p a c) : v = .ref a ∧ p a ∧ p c := by
  obtain ⟨cells, x, y, _, e, h1, h2, _⟩ := h
  exact ⟨e, h1, h2⟩
section
variable {P : Program} {w : World} {K : PySem.W.Frag} {mg : Str → Option Value} {base : Heap}
theorem fn_bx {x qual : Str} {st : Stmt} {f : Addr} {fd : FuncData} {N ps : List Str} {k : Nat} {ms : List Md} {mr : Md} {g : CS} (F : Fun K x qual st f fd) (Sc0 : FnScope N ps (defScope st)) (hms : frzAll ms = true) (hmr : reOk mr = true) (hl : ms.length + 1 = ps.length) (hN : ms.length + 1 ≤ N.length)
    (hbody : ∀ (a c : Addr) (cdv : Value) (A : Around) (outer : List PySem.Env) (s : Shared) (H : Hp) (E : XK) (B : Addr → Prop), Room k (A.deeper (envOfC qual (defScope st) s.heap.objs.size f cdv)) →
      DSs (cxOf CX0 P w K mg base N qual (defScope st) f cdv A outer s H E).nox B ⟨mr, [], [], [some (.bio a c)]⟩ (entM N.length (.bio a c :: ms)) (defBody st) g [some (.bio a c)]) : FnB P w K mg base (k + 1) f fd ps ms mr (fnI g N.length ps.length) := by
  refine F.ok Sc0 (fun vs H Q E h => ?_) (fun cdv A outer s H vs Q E hr h => ?_)
  · obtain ⟨a, c, ds0, ds, vs', r, ds1, rfl, _, ha, _⟩ := h
    rw [List.length_cons, ← ha.len2.2, hl]
  · obtain ⟨a, c, ds0, ds, vs', r, ds1, rfl, ho, ha, hf, kq⟩ := h
    refine ⟨_, hbody a c cdv A outer s H E (fun b => ¬ pB a c b ∧ ∃ u, H b = some u) hr, ?_⟩
    obtain ⟨u1, u2, hHa, hHc⟩ := ho.lsts
    unfold fnI at hf
    split at hf
    · obtain ⟨fl, h1, hf⟩ := Option.bind_eq_some_iff.mp hf
      have hlen := ha.len2.1
      have hoa : ∀ b, Fp.any (fun i b => i = 0 ∧ pB a c b) b ↔ pB a c b := fun b => ⟨fun ⟨_, _, z⟩ => z, fun z => ⟨0, rfl, z⟩⟩
      have ex : ∀ {H' : Hp}, Kp true (fun i b => i = 0 ∧ pB a c b) H H' → ∀ b u, H b = some u → ¬ pB a c b → H' b = some u := fun k b u e n => k.keep b u e fun _ z => n ((hoa b).mp z)
      have last : ∀ {δ' : Env} {σ' : L2.St} {H' : Hp} {o' : Fp} {l : List D}, io0 δ' = some l → R K (fun b => ¬ pB a c b ∧ ∃ u, H b = some u) H' σ' δ' [some (.bio a c)] o' → BoxAt H' (.list l) (.ref a) (pB a c) a c ∧ ∀ b, pB a c b → o'.any b := fun {δ' σ' H' o' l} e r => by
        obtain ⟨v, _, q⟩ := r.at_ 0 (.bio a c) _ rfl (io0_inv e)
        have q : BoxAt H' (.list l) v (o' 0) a c := q
        obtain ⟨rfl, qa, qc⟩ := q.ref
        obtain ⟨cells, x, y, e1, e2, _, _, q3⟩ := q
        refine ⟨⟨cells, x, y, e1, e2, .inl rfl, .inr rfl, q3⟩, fun b z => ⟨0, ?_⟩⟩
        rcases z with z | z
        · rw [z]; exact qa
        · rw [z]; exact qc
      refine ⟨ent N.length (.list ds0 :: ds), fun i b => i = 0 ∧ pB a c b, fl, ⟨?_, fun i j b h1 h2 => h1.1.trans h2.1.symm, fun i b h => ?_, fun b z y => y.1 ((hoa b).mp z), fun b z => z.2, fun i m d e1 e2 => ?_⟩, h1, ?_⟩
      · unfold L2.start ent
        simp only [List.length_append, List.length_map, List.length_replicate, List.length_cons, hlen]
      · rcases h.2 with z | z
        · exact ⟨.lst u1, by rw [z]; exact hHa, trivial⟩
        · exact ⟨.lst u2, by rw [z]; exact hHc, trivial⟩
      · have e1' := entM_get e1
        have e2' := ent_get e2
        cases i with
        | zero =>
          simp at e1' e2'
          subst e1' e2'
          exact ⟨.ref a, start_get rfl, BoxAt.sup (p' := fun b => 0 = 0 ∧ pB a c b) ho fun b z => ⟨rfl, z⟩⟩
        | succ i =>
          obtain ⟨v, e, sr, hm⟩ := ha.get (frzAll_pm hms).1 (by simpa using e1') (by simpa using e2')
          refine ⟨v, start_get (by simpa using e), ?_⟩
          have em : m = .frz := (frzAll_pm hms).2 m (List.mem_of_getElem? (by simpa using e1'))
          subst em
          exact sr
      · cases fl with
        | nx δ' =>
          obtain ⟨l, e, hf⟩ := Option.map_eq_some_iff.mp hf
          cases hf
          exact fun σ' H' o' k' s' r' => kq .non H' noP (ex k') k'.there (last e r').1 (fun B' => reOk_none hmr B') (fun _ z => z.elim) fun _ z => z.elim
        | rt d δ' =>
          obtain ⟨l, e, hf⟩ := Option.map_eq_some_iff.mp hf
          cases hf
          refine fun v σ' H' o' p k' s' r' rr fp cp => ?_
          obtain ⟨q1, q2⟩ := last e r'
          refine kq v H' p (ex k') k'.there q1 (reOk_any hmr rr) (fun b q => ?_) cp
          rcases (fp b q).1 with z | z
          · exact absurd (q2 b ((hoa b).mp z)) (fp b q).2
          · exact z
        | bk _ => cases hf
        | ct _ => cases hf
    · cases hf
end
/-- a mode of a box -/
def Md.bb : Md → Bool | .bx => true | .bio _ _ => true | _ => false
section
variable {K : PySem.W.Frag} {B : Addr → Prop} {H H' : Hp} {σ : L2.St} {δ : Env} {M : MEnv} {o : Fp}
theorem R.box (r : R K B H σ δ M o) {i : Nat} {m : Md} {d : D} (hM : M[i]? = some (some m)) (hw : m.bb = true) (hd : δ[i]? = some (some d)) : ∃ a c, σ[i]? = some (some (.ref a)) ∧ BoxAt H d (.ref a) (o i) a c ∧ (∀ a' c', m = .bio a' c' → a' = a ∧ c' = c) := by
  obtain ⟨v, ev, q⟩ := r.at_ i m _ hM hd
  cases m with
  | bx =>
    obtain ⟨a, c, z⟩ := q
    obtain ⟨rfl, _, _⟩ := z.ref
    exact ⟨a, c, ev, z, fun _ _ e => nomatch e⟩
  | bio a c =>
    have z : BoxAt H d v (o i) a c := q
    obtain ⟨rfl, _, _⟩ := z.ref
    refine ⟨a, c, ev, z, fun _ _ e => ?_⟩
    cases e
    exact ⟨rfl, rfl⟩
  | _ => cases hw
theorem R.bio (r : R K B H σ δ M o) {i : Nat} {m : Md} {d d' : D} {a c : Addr} (hM : M[i]? = some (some m)) (hw : m.bb = true) (hd : δ[i]? = some (some d)) (hσ : σ[i]? = some (some (.ref a))) (ho : BoxAt H d (.ref a) (o i) a c) (hm : ∀ a' c', m = .bio a' c' → a' = a ∧ c' = c)
    (k : ∀ b u, H b = some u → ¬ pB a c b → H' b = some u) (hn : BoxAt H' d' (.ref a) (pB a c) a c) : R K B H' σ (δ.set i (some d')) M o := by
  obtain ⟨_, oa, oc⟩ := ho.ref
  obtain ⟨w1, w2, g1, g2⟩ := ho.lsts
  obtain ⟨u1, u2, h1', h2'⟩ := hn.lsts
  have hi : i < δ.length := (List.getElem?_eq_some_iff.mp hd).1
  have oi : ∀ b, pB a c b → o i b := fun b z => by
    rcases z with z | z
    · rw [z]; exact oa
    · rw [z]; exact oc
  have kF : ∀ b u, H b = some u → ¬ Mut (some u) → H' b = some u := fun b u e n => k b u e fun z => by
    rcases z with z | z
    · rw [z, g1] at e; cases e; exact n trivial
    · rw [z, g2] at e; cases e; exact n trivial
  refine ⟨by rw [List.length_set]; exact r.len, r.dis, fun j b h => ?_, r.sep, fun b h => ?_, fun j m' d0 h1 h2 => ?_⟩
  · by_cases z : pB a c b
    · rcases z with z | z
      · exact ⟨.lst u1, by rw [z]; exact h1', trivial⟩
      · exact ⟨.lst u2, by rw [z]; exact h2', trivial⟩
    · obtain ⟨u, e, mu⟩ := r.cell j b h
      exact ⟨u, k b u e z, mu⟩
  · obtain ⟨u, e⟩ := r.dom b h
    exact ⟨u, k b u e fun z => r.sep b ⟨i, oi b z⟩ h⟩
  · by_cases ej : j = i
    · subst ej
      rw [List.getElem?_set_self hi] at h2
      cases h2
      rw [hM] at h1
      cases h1
      have z : BoxAt H' d' (.ref a) (o j) a c := hn.sup oi
      refine ⟨.ref a, hσ, ?_⟩
      cases m with
      | bx => exact ⟨a, c, z⟩
      | bio a' c' =>
        obtain ⟨rfl, rfl⟩ := hm _ _ rfl
        exact z
      | _ => cases hw
    · rw [List.getElem?_set_ne (Ne.symm ej)] at h2
      obtain ⟨v, ev, q⟩ := r.at_ j m' d0 h1 h2
      have kO : ∀ b u, H b = some u → (o j b ∨ ¬ Mut (some u)) → H' b = some u := fun b u e n => by
        rcases n with n | n
        · exact k b u e fun z => ej (r.dis j i b n (oi b z))
        · exact kF b u e n
      refine ⟨v, ev, ?_⟩
      cases m' with
      | own => exact Own.keep q kO
      | io b => exact ⟨Own.keep q.1 kO, q.2⟩
      | bx =>
        obtain ⟨a, c, z⟩ := q
        exact ⟨a, c, z.keep kO⟩
      | bio a c => exact BoxAt.keep q kO
      | bc c => exact q
      | sta => exact Rep.mono (rdA_keep fun b u e n => by
          rcases n with n | n
          · exact k b u e fun z => r.sep b ⟨i, oi b z⟩ n
          · exact kF b u e n) q
      | frz => exact Rep.mono (rdF_keep kF) q
      | len => exact q.elim
end
/-- a def that writes its box, by what it computes -/
structure ClB (P : Program) (w : World) (K : PySem.W.Frag) (mg : Str → Option Value) (base : Heap) (k : Nat) (x : Str) (ms : List Md) (mr : Md) (F : List D → List D → Option (D × List D)) : Prop where
  ex : ∃ (f : Addr) (fd : FuncData) (ps : List Str), FnB P w K mg base k f fd ps ms mr F ∧ mg x = some (.ref f) ∧ PySem.W.keepIn K (.ref f) = true ∧ Binds K fd ps []
theorem ClB.of {P : Program} {w : World} {K : PySem.W.Frag} {mg : Str → Option Value} {base : Heap} {x : Str} {st : Stmt} {N ps : List Str} {k : Nat} {ms : List Md} {mr : Md} {g : CS} (F : Df K mg x st ps) (Sc0 : FnScope N ps (defScope st)) (hms : frzAll ms = true) (hmr : reOk mr = true) (hl : ms.length + 1 = ps.length) (hN : ms.length + 1 ≤ N.length)
    (hbody : ∀ (f a c : Addr) (cdv : Value) (A : Around) (outer : List PySem.Env) (s : Shared) (H : Hp) (E : XK) (B : Addr → Prop), Room k (A.deeper (envOfC x (defScope st) s.heap.objs.size f cdv)) →
      DSs (cxOf CX0 P w K mg base N x (defScope st) f cdv A outer s H E).nox B ⟨mr, [], [], [some (.bio a c)]⟩ (entM N.length (.bio a c :: ms)) (defBody st) g [some (.bio a c)]) : ClB P w K mg base (k + 1) x ms mr (fnI g N.length ps.length) := by
  obtain ⟨f, fd, hf, hm, hb⟩ := F.ex
  exact ⟨f, fd, ps, fn_bx hf Sc0 hms hmr hl hN (hbody f), hm, hf.kp, hb⟩
section
variable {X : Cx} {B : Addr → Prop} {M : MEnv} {w : Bool} {e : Expr} {es : List Expr} {m mo : Md} {pos p : Pos} {k j : Nat} {x : Str}
theorem de_bi {i : Nat} {ms : List Md} {fa : CA} {F : List D → List D → Option (D × List D)} {y : Str} {py : Pos} (c : ClB X.prog X.w X.K X.mg X.base j x ms mo F) (hr : Room k X.A) (hj : j ≤ k) (hfr : frzAll ms = true)
    (hM : M[i]? = some (some m)) (hwr : m.bb = true) (hN : X.N[i]? = some y) (hv : Vis X.env.scope y)
    (hg : Gl X x) (ha : DA X B M w es fa ms) (hyd : (y == ("__debug__" : Str)) = false) (hyc : (y == ("__classdict__" : Str)) = false)
    (hdb : (x == ("__debug__" : Str)) = false) (he : starEach (.Name y py :: es) X.env = (false, eval (.Name y py) X.env) :: starEach es X.env) (hpl : (backTo pos (starEach es X.env)).any (·.1) = false) :
    DE X B M true (.Call (.Name x p) (.Name y py :: es) [] pos) (ioV i F fa) mo := by
  obtain ⟨f, fd, ps, G, hm, kp, b⟩ := c.ex
  refine PE.mono (pe_call G (hr.mono hj) hg hm kp b .nil pass0 (pa_cons (pe_var hN hv hyd hyc) ha he) hdb he hpl) fun σ H Q h => ?_
  obtain ⟨δ, o, r, δ', hR, hf, kk⟩ := h
  obtain ⟨dsa, as, δ1, ds0, ds1, e1, h1, e2, h2, rfl⟩ := ioV_inv hf
  obtain ⟨a, c, ev, bx, _⟩ := hR.box hM hwr e1
  refine ⟨.ref a, ev, δ, o, as, δ1, hR, h1, fun us H1 o1 k1 R1 s1 a1 => ?_⟩
  obtain ⟨a', c', ev1, bx1, hmm⟩ := R1.box hM hwr e2
  rw [ev] at ev1
  cases ev1
  obtain ⟨_, oa, oc⟩ := bx1.ref
  have bxp : BoxAt H1 (.list ds0) (.ref a) (pB a c') a c' := by
    obtain ⟨cells, x, y, e1, e2, _, _, q3⟩ := bx1
    exact ⟨cells, x, y, e1, e2, .inl rfl, .inr rfl, q3⟩
  refine ⟨a, c', ds0, as, us, r, ds1, by rw [List.append_nil], bxp, a1.toF hfr, h2, fun z H3 p3 k3 t3 ow3 r3 f3 c3 => ?_⟩
  have kH : Kp true o1 H1 H3 := ⟨fun b u e n => k3 b u e fun q => n rfl ⟨i, by rcases q with q | q <;> rw [q] <;> assumption⟩, t3⟩
  have R3 := R1.bio hM hwr e2 ev bx1 hmm k3 ow3
  exact kk z H3 o1 p3 ((k1.up fun _ => rfl).trans s1 kH) R3 s1 (r3 B) (fun b q => ⟨k1.there b (f3 b q), R1.fresh (f3 b q)⟩) c3
end
end Dn
namespace Dn
open PySem PySem.Spec PyProof.Rows L2
variable [Wd]

section
variable {K : PySem.W.Frag} {B : Addr → Prop} {H H' : Hp} {σ : L2.St} {δ : Env} {M : MEnv} {o : Fp}
/-- a slot takes the address of the cells -/
theorem R.setBc (r : R K B H σ δ M o) {j : Nat} {c : Addr} (d : D) (hj : j < σ.length) : R K B H (σ.set j (some (.ref c))) (δ.set j (some d)) (M.set j (some (.bc c))) (setO o j noP) := by
  refine ⟨by rw [List.length_set, List.length_set]; exact r.len, fun i k a h1 h2 => ?_, fun i a h1 => ?_, fun a z => ?_, r.dom, fun i m' d' h1 h2 => ?_⟩
  · unfold setO at h1 h2
    split at h1
    · exact h1.elim
    · split at h2
      · exact h2.elim
      · exact r.dis i k a h1 h2
  · unfold setO at h1
    split at h1
    · exact h1.elim
    · exact r.cell i a h1
  · rcases setO_any z with z | z
    · exact r.sep a z
    · exact z.elim
  · by_cases e : i = j
    · subst e
      have hd : i < δ.length := by rw [← r.len]; exact hj
      rw [List.getElem?_set_self hd] at h2
      have hM : i < M.length := by
        have := (List.getElem?_eq_some_iff.mp h1).1
        rw [List.length_set] at this
        exact this
      rw [List.getElem?_set_self hM] at h1
      cases h1
      cases h2
      exact ⟨.ref c, List.getElem?_set_self hj, rfl⟩
    · rw [List.getElem?_set_ne (Ne.symm e)] at h1 h2
      obtain ⟨v', e', q⟩ := r.at_ i m' d' h1 h2
      refine ⟨v', by rw [List.getElem?_set_ne (Ne.symm e)]; exact e', ?_⟩
      have es : setO o j noP i = o i := by funext a; unfold setO; rw [if_neg e]
      rw [es]
      exact q
end
section
variable {X : Cx} {B : Addr → Prop} {S : Sc} {M M' : MEnv} {w w1 w2 w3 : Bool} {e a b c : Expr} {f f1 f2 f3 : CE} {m m2 m3 : Md} {pos : Pos} {i j : Nat} {x y : Str} {A C : Addr}
/-- cells = box[0] -/
def cellS (i j : Nat) : CS := fun δ => match δ[i]? with
  | some (some (.list _)) => if j < δ.length then some (.nx (δ.set j (some .none))) else none
  | _ => none
theorem ds_cells {px py p0 spos : Pos} {kk : Nat} (hM : M[i]? = some (some (.bio A C))) (hN : X.N.Nodup) (hi : X.N[i]? = some x) (hj : X.N[j]? = some y) (hv : Vis X.env.scope x) (hl : Loc X.env.scope y) (hf : X.fn y = true ∨ X.env.scope.names.lookup y = some .local) (hd : (x == ("__debug__" : Str)) = false) (hcd : (x == ("__classdict__" : Str)) = false)
    (hs : PlainIx (.Constant (.int 0) kk p0)) (hsw : swapsWith (.Subscript (.Name x px) (.Constant (.int 0) kk p0) spos) (some (.Name y py)) pos.line X.env = pure false) :
    DS X B S M (.Assign [.Name y py] (.Subscript (.Name x px) (.Constant (.int 0) kk p0) spos) pos) (cellS i j) (M.set j (some (.bc C))) := PS.mono (ps_set hN hj hl (pe_ix ix_list (pe_var hi hv hd hcd) pe_int hs) hsw hf) fun D' σ H q => by
  obtain ⟨δ, o, fl, hR, hf, k⟩ := q
  unfold cellS at hf
  split at hf
  · rename_i ds h0
    split at hf
    · rename_i hj'
      cases hf
      obtain ⟨a, c, ev, bx, hm⟩ := hR.box hM rfl h0
      obtain ⟨rfl, rfl⟩ := hm _ _ rfl
      obtain ⟨cells, n1, n2, _, _, _, _, _, g1, g2⟩ := bx
      refine ⟨.ref A, ev, A, _, 0, .ref C, rfl, rfl, .inl (.inl g1), rfl, k _ H _ (Kp.refl _ _ _) (fun a z => ?_) (hR.setBc .none (by rw [hR.len]; exact hj'))⟩
      rcases setO_any z with z | z
      · exact .inl z
      · exact z.elim
    · cases hf
  · cases hf
/-- len(cells) -/
def lenCV (i : Nat) : CE := fun δ => match δ[i]? with
  | some (some (.list (.list cs :: _))) => some (.int cs.length, δ)
  | _ => none
theorem R.cells {K : PySem.W.Frag} {H : Hp} {σ : L2.St} {δ : Env} {o : Fp} (hR : R K B H σ δ M o) {d : D} (hM : M[i]? = some (some (.bio A C))) (hM2 : M[j]? = some (some (.bc C))) (hd : δ[i]? = some (some d)) (hj : ∃ e, δ[j]? = some (some e)) : σ[j]? = some (some (.ref C)) ∧ σ[i]? = some (some (.ref A)) ∧ BoxAt H d (.ref A) (o i) A C := by
  obtain ⟨a, c, ev, bx, hm⟩ := hR.box hM rfl hd
  obtain ⟨rfl, rfl⟩ := hm _ _ rfl
  obtain ⟨e, he⟩ := hj
  obtain ⟨v, ev2, q⟩ := hR.at_ j _ e hM2 he
  have q : v = .ref C := q
  subst q
  exact ⟨ev2, ev, bx⟩
/-- the slot of the cells is set -/
def hasC (j : Nat) (f : CE) : CE := fun δ => match δ[j]? with | some (some _) => f δ | _ => none
theorem hasC_inv {δ : Env} {r : D × Env} (h : hasC j f δ = some r) : (∃ e, δ[j]? = some (some e)) ∧ f δ = some r := by
  unfold hasC at h
  split at h
  · rename_i e he
    exact ⟨⟨e, he⟩, h⟩
  · cases h
theorem de_lenC {py p : Pos} (hwd : X.w = Wd.w) (hM : M[i]? = some (some (.bio A C))) (hM2 : M[j]? = some (some (.bc C))) (hj : X.N[j]? = some y) (hv : Vis X.env.scope y) (hd : (y == ("__debug__" : Str)) = false) (hcd : (y == ("__classdict__" : Str)) = false)
    (hg : Gl X "len") (hm : X.mg "len" = none) (hs : starEach [.Name y py] X.env = [(false, eval (.Name y py) X.env)]) (hpl : (backTo pos (starEach [] X.env)).any (·.1) = false) :
    DE X B M false (.Call (.Name "len" p) [.Name y py] [] pos) (hasC j (lenCV i)) .frz := PE.mono (pe_callB (b_len hwd) hg hm (by decide +kernel) (pa_cons (pe_var hj hv hd hcd) pa_nil hs) (by decide +kernel) (by decide +kernel) hs hpl) fun σ H Q h => by
  obtain ⟨δ, o, r, δ', hR, hf, k⟩ := h
  obtain ⟨he, hf⟩ := hasC_inv hf
  unfold lenCV at hf
  split at hf
  · rename_i cs rr h0
    cases hf
    obtain ⟨e1, e2, bx⟩ := hR.cells hM hM2 h0 he
    obtain ⟨cells, n1, n2, ed, _, _, _, _, g1, g2⟩ := bx
    cases ed
    exact ⟨.ref C, e1, [.list (cells.map .int)], _, .cons (.lst (.inl (.inl g2)) (rep_intsL cells)) .nil, rfl, fun _ z H3 p3 k3 r3 f3 c3 => k z H3 o p3 (Kp.all k3) (hR.keep k3) (Sub.refl _ _) (r3 B) (fun a q => ⟨f3 a q, hR.fresh (f3 a q)⟩) c3⟩
  · cases hf
/-- cells.pop(0) -/
def popCV (i : Nat) : CE := fun δ => match δ[i]? with
  | some (some (.list (.list (n :: cs) :: r))) => some (n, δ.set i (some (.list (.list cs :: r))))
  | _ => none
theorem de_popC {py apos p0 : Pos} {kk : Nat} (hM : M[i]? = some (some (.bio A C))) (hM2 : M[j]? = some (some (.bc C))) (hj : X.N[j]? = some y) (hv : Vis X.env.scope y) (hd : (y == ("__debug__" : Str)) = false) (hcd : (y == ("__classdict__" : Str)) = false) (hs0 : starEach [.Constant (.int 0) kk p0] X.env = [(false, eval (.Constant (.int 0) kk p0) X.env)])
    (hbm : ∀ {te : TE} {t : TA}, PE X (.Name y py) te → PA X [.Constant (.int 0) kk p0] t → PE X (.Call (.Attribute (.Name y py) "pop" apos) [.Constant (.int 0) kk p0] [] pos) (tBM X.K "list" rPopAt te t)) :
    DE X B M true (.Call (.Attribute (.Name y py) "pop" apos) [.Constant (.int 0) kk p0] [] pos) (hasC j (popCV i)) .frz := PE.mono (hbm (pe_var hj hv hd hcd) (pa_cons pe_int pa_nil hs0)) fun σ H Q h => by
  obtain ⟨δ, o, r, δ', hR, hf, k⟩ := h
  obtain ⟨he, hf⟩ := hasC_inv hf
  unfold popCV at hf
  split at hf
  · rename_i n cs rr h0
    cases hf
    obtain ⟨e1, e2, bx⟩ := hR.cells hM hM2 h0 he
    obtain ⟨cells, n1, n2, ed, _, oa, oc, nac, g1, g2⟩ := id bx
    cases cells with
    | nil => cases ed
    | cons z cells =>
      cases ed
      have hk : ∀ b u, H b = some u → ¬ pB A C b → upd H C (.lst (cells.map V.int)) b = some u := fun b u e nb => by
        rw [upd_ne fun z => nb (.inr z)]
        exact e
      refine ⟨.ref C, e1, .inl ⟨rfl, _, .inl (.inl g2)⟩, C, _, 0, 0, .int z, rfl, rfl, g2, by decide, by decide, by unfold seqIndex?; simp, rfl, ?_⟩
      refine k (.int z) _ o noP ⟨fun b u e n => ?_, fun b e => ?_⟩ (hR.bio hM rfl h0 e2 bx (fun _ _ e => by cases e; exact ⟨rfl, rfl⟩) hk ⟨cells, n1, n2, rfl, rfl, .inl rfl, .inr rfl, nac, by rw [upd_ne nac]; exact g1, upd_same⟩) (Sub.refl _ _) (.int z) (fun _ z => z.elim) fun _ z => z.elim
      · rw [upd_ne fun z => n rfl (by rw [z]; exact ⟨i, oc⟩)]
        exact e
      · by_cases z : b = C
        · rw [z, upd_same] at e; cases e
        · rw [upd_ne z] at e; exact e
  · cases hf
/-- box[k] = e, k 1 or 2 -/
def stB (i : Nat) (k : Int) (f : CE) : CS := fun δ => (f δ).bind fun p => match p.1, p.2[i]? with
  | .int n, some (some (.list [cs, x, y])) => if k = 1 then some (.nx (p.2.set i (some (.list [cs, .int n, y])))) else if k = 2 then some (.nx (p.2.set i (some (.list [cs, x, .int n])))) else none
  | _, _ => none
theorem ds_setB {px spos p0 : Pos} {kk : Nat} {n : Int} (hM : M[i]? = some (some m)) (hwr : m.bb = true) (hx : PE X (.Name x px) (tVar i)) (he : DE X B M w e f .frz)
    (ha : ∀ v, assign (.Subscript (.Name x px) (.Constant (.int n) kk p0) spos) X.env v = (do
      let ov ← holding [v] (eval (.Name x px) X.env)
      let iv ← holding [v, ov] (eval (.Constant (.int n) kk p0) X.env)
      standAt spos
      holding [v, ov, iv] (setItem ov iv v)
      release [v, ov, iv] []))
    (hs : swapsWithSole [.Subscript (.Name x px) (.Constant (.int n) kk p0) spos] e pos.line X.env = pure false) (hw : swappedStores [.Subscript (.Name x px) (.Constant (.int n) kk p0) spos] e X.env = pure none) (h1 : (assignEach [.Subscript (.Name x px) (.Constant (.int n) kk p0) spos] X.env).map (·.2) = [assign (.Subscript (.Name x px) (.Constant (.int n) kk p0) spos) X.env]) :
    DS X B S M (.Assign [.Subscript (.Name x px) (.Constant (.int n) kk p0) spos] e pos) (stB i n f) M := PS.mono (ps_asg he (pg_sub hx pe_int set_list ha) hs hw h1) fun D' σ H q => by
  obtain ⟨δ, o, fl, hR, hf, k⟩ := q
  obtain ⟨⟨d, δ1⟩, h1, hf⟩ := Option.bind_eq_some_iff.mp hf
  dsimp only at hf
  split at hf
  · rename_i z cs x1 y1 h2
    refine ⟨δ, o, .int z, δ1, hR, h1, fun v H1 o1 p1 k1 R1 s1 r1 f1 c1 => ?_⟩
    cases (show Rep (rdF X.K H1) (.int z) v from r1)
    obtain ⟨a, c, ev, bx, hm⟩ := R1.box hM hwr h2
    obtain ⟨cells, n1, n2, ed, _, oa, oc, nac, g1, g2⟩ := id bx
    cases ed
    have fin : ∀ (u : HO) (ds' : D), BoxAt (upd H1 a u) ds' (.ref a) (pB a c) a c → SD X.K B o H S M D' (.nx (δ1.set i (some ds'))) → D'.nx σ (upd H1 a u) := fun u ds' bn k => by
      refine k σ _ o1 ((k1.up fun _ => rfl).trans s1 (Kp.wr ⟨i, oa⟩ g1)) s1 (R1.bio hM hwr h2 ev bx hm (fun b u e nb => ?_) bn)
      rw [upd_ne fun z => nb (.inl z)]
      exact e
    refine ⟨.ref a, ev, a, [.ref c, .int n1, .int n2], n, ?_⟩
    split at hf
    · rename_i hk
      cases hf
      subst hk
      exact ⟨1, rfl, rfl, g1, rfl, fin _ _ ⟨cells, z, n2, rfl, rfl, .inl rfl, .inr rfl, nac, upd_same, by rw [upd_ne nac.symm]; exact g2⟩ k⟩
    · split at hf
      · rename_i hk
        cases hf
        subst hk
        exact ⟨2, rfl, rfl, g1, rfl, fin _ _ ⟨cells, n1, z, rfl, rfl, .inl rfl, .inr rfl, nac, upd_same, by rw [upd_ne nac.symm]; exact g2⟩ k⟩
      · cases hf
  · cases hf
/-- a new box: [list, int, int] -/
def boxV (f g h : CE) : CE := fun δ => (f δ).bind fun p => (g p.2).bind fun q => (h q.2).bind fun r => match p.1, q.1, r.1 with
  | .list ds, .int x, .int y => if (asInts ds).isSome = true then some (.list [.list ds, .int x, .int y], r.2) else none
  | _, _, _ => none
theorem asInts_data : ∀ {ds : List D} {ns : List Int}, asInts ds = some ns → ds = ns.map PyData.int
  | [], ns, h => by cases h; rfl
  | .int i :: ds, ns, h => by
    obtain ⟨ms, h1, rfl⟩ := Option.map_eq_some_iff.mp h
    rw [asInts_data h1]
    rfl
  | .none :: _, _, h => by cases h
  | .bool _ :: _, _, h => by cases h
  | .str _ :: _, _, h => by cases h
  | .list _ :: _, _, h => by cases h
  | .tuple _ :: _, _, h => by cases h
  | .dict _ :: _, _, h => by cases h
theorem de_box (ha : DE X B M w1 a f1 .own) (hb : DE X B M w2 b f2 m2) (hc : DE X B M w3 c f3 m3) (hs1 : starEach [a, b, c] X.env = (false, eval a X.env) :: starEach [b, c] X.env) (hs2 : starEach [b, c] X.env = (false, eval b X.env) :: starEach [c] X.env) (hs3 : starEach [c] X.env = [(false, eval c X.env)]) :
    DE X B M true (.List [a, b, c] pos) (boxV f1 f2 f3) .bx := PE.mono (pe_lst (pa_cons ha (pa_cons hb (pa_cons hc pa_nil hs3) hs2) hs1)) fun σ H Q h => by
  obtain ⟨δ, o, r, δ', hR, hf, k⟩ := h
  obtain ⟨⟨d1, δ1⟩, h1, hf⟩ := Option.bind_eq_some_iff.mp hf
  obtain ⟨⟨d2, δ2⟩, h2, hf⟩ := Option.bind_eq_some_iff.mp hf
  obtain ⟨⟨d3, δ3⟩, h3, hf⟩ := Option.bind_eq_some_iff.mp hf
  dsimp only at hf
  split at hf
  · rename_i ds x y _ _
    split at hf
    · rename_i hi
      cases hf
      obtain ⟨ns, hn⟩ := Option.isSome_iff_exists.mp hi
      have hds := asInts_data hn
      refine ⟨δ, o, _, δ1, hR, h1, fun v1 H1 o1 p1 k1 R1 s1 r1 f1 c1 => ⟨δ1, o1, _, δ2, R1, h2, fun v2 H2 o2 p2 k2 R2 s2 r2 f2 c2 => ⟨δ2, o2, _, δ', R2, h3, fun v3 H3 o3 p3 k3 R3 s3 r3 f3 c3 => ⟨by show 3 ≤ _; decide, fun q hq => ?_⟩⟩⟩⟩
      cases r2.lent
      cases r3.lent
      obtain ⟨C, vs, rfl, pC, hC, rv⟩ := r1
      have ev : vs = ns.map V.int := asInts_rep hn rv
      subst ev
      have n1 : ¬ o1.any C := (f1 C pC).2
      have n2 : ¬ o2.any C := fun z => by
        rcases s2 C z with z | z
        · exact n1 z
        · rw [hC] at z; cases z
      have hC2 : H2 C = _ := k2.keep C _ hC fun _ => n1
      have n3 : ¬ o3.any C := fun z => by
        rcases s3 C z with z | z
        · exact n2 z
        · rw [hC2] at z; cases z
      have hC3 : H3 C = _ := k3.keep C _ hC2 fun _ => n2
      have nq : q ≠ C := fun z => by rw [z, hC3] at hq; cases hq
      have s12 := s1.trans k1 s2
      have k12 : Kp true o H H2 := (k1.up fun _ => rfl).trans s1 (k2.up fun _ => rfl)
      have k13 : Kp true o H H3 := k12.trans s12 (k3.up fun _ => rfl)
      have s13 := s12.trans k12 s3
      refine k (.ref q) _ o3 (pB q C) (k13.trans s13 (Kp.all (Ext.new hq))) (R3.keep (Ext.new hq)) s13 ⟨q, C, ns, x, y, by rw [hds], rfl, .inl rfl, .inr rfl, nq, upd_same, by rw [upd_ne nq.symm]; exact hC3⟩ (fun b z => ?_) fun b z => ?_
      · rcases z with z | z
        · rw [z]; exact ⟨k13.there q hq, R3.fresh hq⟩
        · rw [z]; exact ⟨(f1 C pC).1, n3⟩
      · rcases z with z | z
        · exact ⟨.lst [.ref C, .int x, .int y], by rw [z]; exact upd_same, trivial⟩
        · exact ⟨.lst (ns.map V.int), by rw [z, upd_ne nq.symm]; exact hC3, trivial⟩
    · cases hf
  · cases hf
end
def fnR (g : CS) (n m : Nat) : List D → Option D := fun ds => if ds.length = m then (g (ent n ds)).bind fun fl => match fl with | .rt d _ => some d | _ => none else none
def reR : Md → Bool | .frz => true | .own => true | .bx => true | _ => false
theorem reR_any {K : PySem.W.Frag} {H : Hp} {B : Addr → Prop} {mr : Md} {d : D} {v : V} {p : Addr → Prop} (hm : reR mr = true) (h : RRep K H B mr d v p) : ∀ B', RRep K H B' mr d v p := by
  cases mr with
  | frz => exact fun _ => h
  | own => exact fun _ => h
  | bx => exact fun _ => h
  | _ => cases hm
theorem Cl.ofR {P : Program} {w : World} {K : PySem.W.Frag} {mg : Str → Option Value} {base : Heap} {x : Str} {st : Stmt} {N ps : List Str} {k : Nat} {ms : List Md} {mr : Md} {g : CS} {M' : MEnv} (F : Df K mg x st ps) (Sc0 : FnScope N ps (defScope st)) (hms : pmOk ms = true) (hmr : reR mr = true) (hl : ms.length = ps.length)
    (hbody : ∀ (f : Addr) (cdv : Value) (A : Around) (outer : List PySem.Env) (s : Shared) (H : Hp) (E : XK) (B : Addr → Prop), Room k (A.deeper (envOfC x (defScope st) s.heap.objs.size f cdv)) →
      DSs (cxOf CX0 P w K mg base N x (defScope st) f cdv A outer s H E).nox B ⟨mr, [], [], []⟩ (entM N.length ms) (defBody st) g M') : Cl P w K mg base (k + 1) x ms mr (fnR g N.length ps.length) := by
  obtain ⟨f, fd, hF, hmg, hb⟩ := F.ex
  refine ⟨f, fd, ps, hF.ok Sc0 (fun vs H Q E h => ?_) (fun cdv A outer s H vs Q E hr h => ?_), hmg, hF.kp, hb⟩
  · obtain ⟨ds, r, a, _, _⟩ := h
    rw [← a.len2.2, hl]
  · obtain ⟨ds, r, a, hf, kq⟩ := h
    refine ⟨_, hbody f cdv A outer s H E (fun a => ∃ u, H a = some u) hr, ?_⟩
    unfold fnR at hf
    split at hf
    · obtain ⟨fl, h1, hf⟩ := Option.bind_eq_some_iff.mp hf
      have hlen := a.len2.1
      have noO : ∀ a, ¬ Fp.any (fun _ _ => False) a := fun a ⟨_, z⟩ => z
      have ex : ∀ {H' : Hp}, Kp true (fun _ _ => False) H H' → Ext H H' := fun k a u e => k.keep a u e fun _ => noO a
      refine ⟨ent N.length ds, fun _ _ => False, fl, ⟨?_, fun _ _ _ z => z.elim, fun _ _ z => z.elim, fun a z => (noO a z).elim, fun _ z => z, fun i m d e1 e2 => ?_⟩, h1, ?_⟩
      · unfold L2.start ent
        rw [List.length_append, List.length_append, List.length_map, List.length_map, List.length_replicate, List.length_replicate, hlen]
      · obtain ⟨v, e, sr, _⟩ := a.get hms (entM_get e1) (ent_get e2)
        exact ⟨v, start_get e, sr⟩
      · cases fl with
        | rt d δ' =>
          cases hf
          refine fun v σ' H' o' p k' s' r' rr fp cp => kq v H' p (ex k') (reR_any hmr rr) (fun a q => ?_) cp
          rcases (fp a q).1 with z | z
          · exact (noO a z).elim
          · exact z
        | nx _ => cases hf
        | bk _ => cases hf
        | ct _ => cases hf
    · cases hf
end Dn
namespace Dn
open PySem PySem.Spec PyProof.Rows L2
variable [Wd]

end Dn
namespace RZE
open PySem PySem.Spec PyProof.Rows
open PySem.AutoSeq1 (wpAny_loadPart')
section
variable {prog : Program} {w : World} {A : Around} {E : Value → Shared → Prop} {s : Shared}
end
end RZE
namespace L2
open PySem PySem.Spec PyProof.Rows
end L2
namespace Dn
open PySem PySem.Spec PyProof.Rows L2
variable [Wd]

theorem PI.or {X : Cx} {tg iter : Expr} {t t' : TI} (h : PI X tg iter t) (h' : PI X tg iter t') : PI X tg iter (fun σ H R => t σ H R ∨ t' σ H R) := ⟨fun pins s σ H R I q => q.elim (h.run pins s σ H R I) (h'.run pins s σ H R I)⟩
section
variable {X : Cx} {B : Addr → Prop} {M : MEnv} {w : Bool} {m : Md} {e : Expr} {elts : List Expr} {pos : Pos}
end
end Dn
namespace Dn
open PySem PySem.Spec PyProof.Rows L2
variable [Wd]

section
variable {X : Cx} {B : Addr → Prop} {M : MEnv} {w w1 w2 : Bool} {a b e e2 : Expr} {f g h : CE} {m ma mb mo : Md} {pos px apos cpos : Pos} {x : Str}
abbrev CPs := Env → Option (List (D × D) × Env)
def pNil : CPs := fun δ => some ([], δ)
def pCons (f g : CE) (h : CPs) : CPs := fun δ => (f δ).bind fun p => (g p.2).bind fun q => (h q.2).bind fun r => some ((p.1, q.1) :: r.1, r.2)
inductive PRep (r : Rdr) : List (D × D) → List (V × V) → Prop
  | nil : PRep r [] []
  | cons {k d : D} {kv v : V} {kvs : List (D × D)} {ps : List (V × V)} : Rep r k kv → Rep r d v → PRep r kvs ps → PRep r ((k, d) :: kvs) ((kv, v) :: ps)
theorem PRep.mono {r r' : Rdr} (h : r.le r') : ∀ {kvs : List (D × D)} {ps : List (V × V)}, PRep r kvs ps → PRep r' kvs ps
  | _, _, .nil => .nil
  | _, _, .cons a b c => .cons (Rep.mono h a) (Rep.mono h b) (PRep.mono h c)
def TPs' (K : PySem.W.Frag) (B : Addr → Prop) (M : MEnv) (w : Bool) (f : CPs) (σ : L2.St) (H : Hp) (Q : List (V × V) → Hp → Prop) : Prop := ∃ δ o kvs δ', R K B H σ δ M o ∧ f δ = some (kvs, δ') ∧
  ∀ H' o' ps, Kp w o H H' → R K B H' σ δ' M o' → Sub o H o' → PRep (rdF K H') kvs ps → Q ps H'
def DPs (X : Cx) (B : Addr → Prop) (M : MEnv) (w : Bool) (pos : Pos) (keys : List (Option Expr)) (values : List Expr) (f : CPs) : Prop :=
  ∃ trs, PPs X pos keys values trs ∧ ∀ σ H Q, TPs' X.K B M w f σ H Q → tPairs trs σ H Q
theorem dp_nil : DPs X B M false pos [] [] pNil := ⟨[], pps_nil, fun σ H Q h => by
  obtain ⟨δ, o, kvs, δ', hR, hf, k⟩ := h
  cases hf
  exact k H o [] (Kp.refl _ _ _) hR (Sub.refl _ _) .nil⟩
theorem dp_cons {ks : List (Option Expr)} {vs : List Expr} {hh : CPs} (ha : DE X B M w a f .frz) (hb : DE X B M w1 b g .frz) (hc : DPs X B M w2 pos ks vs hh) : DPs X B M (w || w1 || w2) pos (some a :: ks) (b :: vs) (pCons f g hh) := by
  obtain ⟨trs, hp, ht⟩ := hc
  refine ⟨_, pps_cons ha hb hp, fun σ H Q q => ?_⟩
  obtain ⟨δ, o, kvs, δ3, hR, hf, k⟩ := q
  obtain ⟨⟨d, δ1⟩, h1, hf⟩ := Option.bind_eq_some_iff.mp hf
  obtain ⟨⟨e, δ2⟩, h2, hf⟩ := Option.bind_eq_some_iff.mp hf
  obtain ⟨⟨r, δ3'⟩, h3, hf⟩ := Option.bind_eq_some_iff.mp hf
  cases hf
  refine ⟨δ, o, d, δ1, hR, h1, fun v H1 o1 p1 k1 R1 s1 r1 f1 c1 => ⟨δ1, o1, e, δ2, R1, h2, fun u H2 o2 p2 k2 R2 s2 r2 f2 c2 => ht _ _ _ ⟨δ2, o2, r, _, R2, h3, fun H3 o3 ps k3 R3 s3 rp => ?_⟩⟩⟩
  have kk : Kp (w || w1) o H H2 := (k1.up fun z => by rw [z]; rfl).trans s1 (k2.up fun z => by rw [z]; simp)
  have ss : Sub o H o2 := s1.trans k1 s2
  have kk3 : Kp (w || w1 || w2) o H H3 := (kk.up fun z => by rw [z]; rfl).trans ss (k3.up fun z => by rw [z]; simp)
  exact k H3 o3 _ kk3 R3 (ss.trans kk s3) (.cons (Rep.mono (rdF_keep (R2.kpF k3)) (Rep.mono (rdF_keep (R1.kpF k2)) r1)) (Rep.mono (rdF_keep (R2.kpF k3)) r2) rp)
/-- a dict's entries as they are written: all keys different -/
def dkB (kvs : List (D × D)) : Bool := (kvs.all fun p => keyG p.1) && ((kvs.all fun p => isT p.1) || (kvs.all fun p => isF p.1)) && decide (kvs.map fun p => nk p.1).Nodup && decide (kvs.length ≤ 15)
theorem dkB_ok {kvs : List (D × D)} (h : dkB kvs = true) : DOk kvs := by
  simp only [dkB, Bool.and_eq_true, Bool.or_eq_true, decide_eq_true_eq, List.all_eq_true] at h
  exact ⟨h.1.1.1, h.1.1.2, h.1.2, by have := h.2; rw [sizeLine_eq]; omega⟩
def dispV (f : CPs) : CE := fun δ => (f δ).bind fun p => if dkB p.1 = true then some (.dict p.1, p.2) else none
def xsOf : List (D × D) → List (V × V) → List (V × Int × V)
  | p :: kvs, q :: ps => (q.1, hk0 p.1, q.2) :: xsOf kvs ps
  | _, _ => []
theorem PRep.kv {r : Rdr} (hr : r.hk = hk0) : ∀ {kvs : List (D × D)} {ps : List (V × V)}, PRep r kvs ps → RepKv r kvs (xsOf kvs ps)
  | _, _, .nil => .nil
  | _, _, .cons (k := k) a b c => by
    have := PRep.kv hr c
    show RepKv r _ ((_, hk0 k, _) :: _)
    rw [← hr]
    exact .cons a b this
def ps3 : List (D × D) → List (Value × Value) → List (NestedKey × Addr × Value)
  | p :: kvs, q :: ws => (nk p.1, refA q.1, q.2) :: ps3 kvs ws
  | _, _ => []
def ps2 : List (D × D) → List (Value × Value) → List (Key × Value)
  | p :: kvs, q :: ws => (fk p.1, q.2) :: ps2 kvs ws
  | _, _ => []
section
variable {pins : List (Addr × Obj)} {σ : L2.St} {H : Hp} {s : Shared}
theorem ps3_ok (hw : X.w = Wd.w) (I : Inv X pins σ H s) : ∀ {kvs : List (D × D)} {ps : List (V × V)} {ws : List (Value × Value)}, PRep (rdF X.K H) kvs ps → VV ps ws → (∀ p ∈ kvs, isT p.1 = true) → (∀ p ∈ kvs, keyG p.1 = true) →
    CarriesH (nestedKind X.prog X.w) s.heap ws (ps3 kvs ws) ∧ (ps3 kvs ws).map (·.1) = (kvs.map fun p => nk p.1) ∧ Paired EntR (xsOf kvs ps) ((ps3 kvs ws).map (entryOfKey (nestedKind X.prog X.w)))
  | _, _, _, .nil, .nil, _, _ => ⟨trivial, rfl, .nil⟩
  | _, _, (u, r) :: ws, .cons (k := k) (d := d) (kvs := kvs) (kv := kv) (v := v) (ps := ps) hk hd rr, .cons he t, hT, hG => by
    obtain ⟨h1, h2, h3⟩ := ps3_ok hw I rr t (fun p hp => hT p (List.mem_cons_of_mem _ hp)) (fun p hp => hG p (List.mem_cons_of_mem _ hp))
    obtain ⟨e1, e2⟩ := he
    obtain ⟨b, rfl, eu, is⟩ := keyT I (Rep.mono rdF_L hk) e1 (hG (k, d) List.mem_cons_self) (hT (k, d) List.mem_cons_self)
    have eu : u = .ref b := eu
    subst eu
    refine ⟨⟨rfl, rfl, is, h1⟩, by show nk k :: (ps3 kvs ws).map (·.1) = _; rw [h2]; rfl, .cons ⟨rfl, ?_, e2⟩ h3⟩
    show (nk k).hash X.w = (nk k).hash Wd.w
    rw [hw]
theorem storedAll_new {κ : Type} [DecidableEq κ] : ∀ (ps acc : List (κ × Addr × Value)), ((acc ++ ps).map (·.1)).Nodup → storedAllH acc ps = acc ++ ps
  | [], acc, _ => by rw [List.append_nil]; rfl
  | p :: ps, acc, hn => by
    have e : storedH acc p.1 p.2.1 p.2.2 = acc ++ [p] := by
      refine storedH_new ?_ _ _
      have : p.1 ∉ acc.map (·.1) := fun z => by
        rw [List.map_append, List.map_cons] at hn
        exact (List.nodup_append.mp hn).2.2 _ z _ List.mem_cons_self rfl
      unfold atKey
      rw [Option.map_eq_none_iff, List.find?_eq_none]
      intro y hy z
      exact this (by rw [← of_decide_eq_true z]; exact List.mem_map_of_mem (f := fun q : κ × Addr × Value => q.1) hy)
    show storedAllH (storedH acc p.1 p.2.1 p.2.2) ps = _
    rw [e, storedAll_new ps (acc ++ [p]) (by simpa using hn)]
    simp
theorem ps2_ok (hw : X.w = Wd.w) : ∀ {kvs : List (D × D)} {ps : List (V × V)} {ws : List (Value × Value)}, PRep (rdF X.K H) kvs ps → VV ps ws → (∀ p ∈ kvs, isF p.1 = true) →
    Carries (mixKind X.prog X.w) ws (ps2 kvs ws) ∧ (ps2 kvs ws).map (·.1) = (kvs.map fun p => fk p.1) ∧ ∀ {el : List DictEntry}, Paired (EntK X.prog X.w) (ps2 kvs ws) el → Paired EntR (xsOf kvs ps) el
  | _, _, _, .nil, .nil, _ => ⟨trivial, rfl, fun h => by cases h; exact .nil⟩
  | _, _, (u, r) :: ws, .cons (k := k) (d := d) (kvs := kvs) (kv := kv) (v := v) (ps := ps) hk hd rr, .cons he t, hF => by
    obtain ⟨h1, h2, h3⟩ := ps2_ok hw rr t (fun p hp => hF p (List.mem_cons_of_mem _ hp))
    obtain ⟨e1, e2⟩ := he
    have kF : isF k = true := hF (k, d) List.mem_cons_self
    refine ⟨⟨isF_rel (X := X) (Rep.mono rdF_L hk) kF e1, rfl, h1⟩, by show fk k :: (ps2 kvs ws).map (·.1) = _; rw [h2]; rfl, fun h => ?_⟩
    cases h with
    | cons z t' =>
      refine .cons ⟨?_, ?_, ?_⟩ (h3 t')
      · rcases isF_cases kF with ⟨i, rfl⟩ | ⟨x, rfl⟩ <;> (cases hk; exact z.1)
      · rw [z.2.1]; exact isF_hash (X := X) hw kF
      · rw [z.2.2]; exact e2
theorem merged_new {κ : Type} [DecidableEq κ] : ∀ (ps acc : List (κ × Value)), ((acc ++ ps).map (·.1)).Nodup → merged acc ps = acc ++ ps
  | [], acc, _ => by rw [List.append_nil]; rfl
  | p :: ps, acc, hn => by
    have e : stored acc p.1 p.2 = acc ++ [p] := by
      unfold stored
      rw [if_neg]
      intro z
      obtain ⟨y, hy, ey⟩ := List.any_eq_true.mp z
      rw [List.map_append, List.map_cons] at hn
      exact (List.nodup_append.mp hn).2.2 _ (List.mem_map_of_mem (f := fun q : κ × Value => q.1) hy) _ List.mem_cons_self (of_decide_eq_true ey)
    show merged (stored acc p.1 p.2) ps = _
    rw [e, merged_new ps (acc ++ [p]) (by simpa using hn)]
    simp
end
theorem de_disp {keys : List (Option Expr)} {values : List Expr} {ff : CPs} (hu : X.A.units + 9 < cLine) (hw : X.w = Wd.w) (h : DPs X B M w pos keys values ff) (hall : keys.all (·.isSome) = true) (hl : keys.length = values.length) (h0 : keys ≠ []) (h15 : keys.length ≤ 15) :
    DE X B M w (.Dict keys values pos) (dispV ff) .own := ⟨fun pins s σ H Q I q => by
  obtain ⟨δ, o, d, δ', hR, hf, k⟩ := q
  obtain ⟨⟨kvs, δ1⟩, h1, hf⟩ := Option.bind_eq_some_iff.mp hf
  dsimp only at hf
  split at hf
  · rename_i hok
    have ed : d = .dict kvs ∧ δ' = δ1 := by cases hf; exact ⟨rfl, rfl⟩
    obtain ⟨rfl, rfl⟩ := ed
    have ok := dkB_ok hok
    obtain ⟨trs, hp, ht⟩ := h
    have hn := I.hok.fresh (Nat.le_refl s.heap.objs.size)
    have I1 := I.laid (a := s.heap.objs.size) (o := DicO s.heap.objs.size []) (h' := s.heap.push { cls := .type "dict", data := .dict #[] }) (t' := s.toks) (fun _ _ q => Heap.get?_push_of_some _ q) (Nat.le_refl _) (dic_empty I : ObjOk X.prog X.w H _ _ _)
    have ex := Ext.new (u := DicO s.heap.objs.size []) hn
    have R1 := hR.keep ex
    have run := hp.run pins _ σ _ (fun ps H2 => ∃ o2, Kp w o (upd H s.heap.objs.size (DicO s.heap.objs.size [])) H2 ∧ R X.K B H2 σ δ' M o2 ∧ Sub o (upd H s.heap.objs.size (DicO s.heap.objs.size [])) o2 ∧ PRep (rdF X.K H2) kvs ps) I1 (ht _ _ _ ⟨δ, o, kvs, δ', R1, h1, fun H' o' ps a b c d => ⟨o', a, b, c, d⟩⟩)
    -- what is left when the new dict has its entries
    have fin : ∀ {H2 : Hp} {s2 : Shared} {h' : Heap} {tk : Nat} {ps : List (V × V)} {o2 : Fp} {ob : Obj} {es : Array DictEntry} {ep : Nat}, Inv X pins σ H2 s2 → Kp w o (upd H s.heap.objs.size (DicO s.heap.objs.size [])) H2 → R X.K B H2 σ δ' M o2 → Sub o (upd H s.heap.objs.size (DicO s.heap.objs.size [])) o2 → PRep (rdF X.K H2) kvs ps →
        Heap.SameBut s.heap.objs.size s2.heap h' → h'.get? s.heap.objs.size = some ob → ob.ExactDict → ob.data = .dict es ep → Paired EntR (xsOf kvs ps) es.toList → EP X pins σ Q (.ref s.heap.objs.size) { s2 with heap := h', toks := tk } := by
      intro H2 s2 h' tk ps o2 ob es ep I2 k2 R2 s2' rp hs g1 g2 g3 g4
      have np : ¬ o.any s.heap.objs.size := hR.fresh hn
      have at2 : H2 s.heap.objs.size = some (DicO s.heap.objs.size []) := k2.keep _ _ upd_same fun _ => np
      have np2 : ¬ o2.any s.heap.objs.size := fun z => by
        rcases s2' _ z with z | z
        · exact np z
        · rw [upd_same] at z; cases z
      have nB : ¬ B s.heap.objs.size := fun z => by
        obtain ⟨u, e⟩ := hR.dom _ z
        rw [hn] at e; cases e
      have sysm : (s.heap.objs.size == sysModules) = false := beq_eq_false_iff_ne.mpr (Ne.symm (Nat.ne_of_lt I.big))
      have I3 : Inv X pins σ (upd H2 s.heap.objs.size (DicO s.heap.objs.size (xsOf kvs ps))) { s2 with heap := h', toks := tk } := d_write I2 (by rw [at2]; exact True.intro) hs ⟨ob, g1⟩ (dicO_ok sysm g1 g2 g3 g4)
      have R3 := R2.upd (u' := DicO s.heap.objs.size (xsOf kvs ps)) at2 trivial np2 nB
      have keepF : (rdF X.K H2).le (rdF X.K (upd H2 s.heap.objs.size (DicO s.heap.objs.size (xsOf kvs ps)))) := rdF_keep fun a u e n => by
        rw [upd_ne fun z => n (by rw [z, at2] at e; cases e; trivial)]
        exact e
      refine ⟨.ref s.heap.objs.size, _, I3, rfl, k _ _ o2 (fun a => a = s.heap.objs.size) ⟨fun a u e n => ?_, fun a e => ?_⟩ R3 (fun a z => ?_) ⟨_, xsOf kvs ps, rfl, rfl, upd_same, PRep.kv rfl (PRep.mono keepF rp), ok⟩ (fun a q => by rw [q]; exact ⟨hn, np2⟩) (fun a q => by rw [q]; exact ⟨_, upd_same, trivial⟩)⟩
      · have na : a ≠ s.heap.objs.size := fun z => by rw [z, hn] at e; cases e
        rw [upd_ne na]
        exact k2.keep a u (by rw [upd_ne na]; exact e) n
      · by_cases na : a = s.heap.objs.size
        · rw [na]; exact hn
        · rw [upd_ne na] at e
          have := k2.there a e
          rwa [upd_ne na] at this
      · rcases s2' a z with z' | z'
        · exact .inl z'
        · by_cases na : a = s.heap.objs.size
          · exact absurd (na ▸ z) np2
          · rw [upd_ne na] at z'
            exact .inr z'
    rcases ok.kind with hT | hF
    · have hn' := pairTrees_length keys values X.env pos hall hl
      have hne : pairTrees keys values X.env pos ≠ [] := fun z => by
        rw [z] at hn'
        exact h0 (List.length_eq_zero_iff.mp hn'.symm)
      rw [arm_eval_Dict, zip_pairTrees keys values X.env pos hall hl, dictDisplay_pairs _ hne (by rw [hn']; omega)]
      refine wpAny_bind (wpAny_standAt (wpAny_bind (wpAny_subDictH (knd := nestedKind X.prog X.w) (Q := fun d s' => wpAny (model X.prog X.w) X.A (pure (Value.ref d)) (EP X pins σ Q) X.xe s') (by show X.A.units + 8 < cLine; omega) (by rw [hn']; exact h15) (thn run fun ws s2 ⟨ps, H2, I2, rel, o2, k2, R2, s2', rp⟩ => ?_))))
      obtain ⟨c1, c2, c3⟩ := ps3_ok hw I2 rp rel hT ok.good
      have np : ¬ o.any s.heap.objs.size := hR.fresh hn
      have at2 : H2 s.heap.objs.size = some (DicO s.heap.objs.size []) := k2.keep _ _ upd_same fun _ => np
      obtain ⟨_, el, pe, dh, _, _⟩ := dic_T hw I2 (.inl (.inl at2)) .nil DOk.nil (fun _ z => nomatch z)
      refine ⟨_, c1, dh, fun h' tk dd hs => wpAny_pure ?_⟩
      rw [storedAll_new _ _ (by rw [List.nil_append, c2]; exact ok.nodup), List.nil_append] at dd
      obtain ⟨ob, es, ep, g1, g2, g3, g4, _, _⟩ := dd
      exact fin I2 k2 R2 s2' rp hs g1 g2 g3 (by rw [g4]; exact c3)
    · refine wpAny_Dict_walk (knd := mixKind X.prog X.w) hall hl h0 h15 (thn run fun ws s2 ⟨ps, H2, I2, rel, o2, k2, R2, s2', rp⟩ => ?_)
      obtain ⟨c1, c2, c3⟩ := ps2_ok (H := H2) hw rp rel hF
      have np : ¬ o.any s.heap.objs.size := hR.fresh hn
      have at2 : H2 s.heap.objs.size = some (DicO s.heap.objs.size []) := k2.keep _ _ upd_same fun _ => np
      obtain ⟨_, el, pe, dh, _⟩ := dic_F hw I2 (.inl (.inl at2)) .nil DOk.nil (fun _ z => nomatch z)
      refine ⟨_, c1, dh, fun h' dd hs => ?_⟩
      rw [merged_new _ _ (by rw [List.nil_append, c2]; exact nodup_fk hF ok.nodup), List.nil_append] at dd
      obtain ⟨ob, es, ep, g1, g2, g3, g4, g5, _⟩ := dd
      exact fin I2 k2 R2 s2' rp hs g1 g2 g3 (c3 (entK_of g5 fun e he => g4 e (by simpa using he)))
  · cases hf⟩
end
end Dn
namespace Dn
open PySem PySem.Spec PyProof.Rows L2
variable [Wd]

section
variable {X : Cx} {o e f : Expr} {apos cpos : Pos} {td ty tx : TE}
end

def c3 (φ : D → D → D → Option D) (f g h : CE) : CE := fun δ => (f δ).bind fun p => (g p.2).bind fun q => (h q.2).bind fun s => (φ p.1 q.1 s.1).bind fun r => some (r, s.2)
theorem RepKv.getD {r : Rdr} {kvs : List (D × D)} {xs : List (V × Int × V)} {k x : D} {v : V} (h : RepKv r kvs xs) (hx : Rep r x v) : Rep r ((getK kvs k).getD x) ((getX kvs xs k).getD v) := by
  cases g : getK kvs k with
  | none => rw [h.getN g]; exact hx
  | some d =>
    obtain ⟨u, hu, ru⟩ := h.get g
    rw [hu]; exact ru
section
variable {X : Cx} {B : Addr → Prop} {M : MEnv} {w wa wb wc : Bool} {a b c : Expr} {f g h : CE} {m ma mb mc : Md} {pos px apos cpos : Pos} {x : Str} {i : Nat}
/-- an item of what a slot owns is held for ever -/
theorem de_ixO (hu : X.A.units + 9 < cLine) (hw : X.w = Wd.w) (hM : M[i]? = some (some m)) (hwr : m.fl = true) (hx : PE X (.Name x px) (tVar i)) (hb : DE X B M false b g mb) (hs : PlainIx b) : DE X B M false (.Subscript (.Name x px) b pos) (c2 ixD (rd i) g) .frz :=
  PE.mono (pe_ix (IxR.or ix_seq (ix_dic hu hw)) hx hb hs) fun σ H Q q => by
    obtain ⟨δ, o, r, δ2, hR, hf, k⟩ := q
    obtain ⟨d, e, δ1, h1, h2, h3⟩ := c2_inv hf
    obtain ⟨h0, rfl⟩ := rd_inv h1
    cases d with
    | dict kvs =>
      obtain ⟨A, xs, eA, ho, hH, hv, ok⟩ := hR.ownD hM hwr h0
      refine ⟨.ref A, eA, δ1, o, e, δ2, hR, h2, fun y H2 o2 p2 k2 R2 s2 r2 f2 c2 => .inr ?_⟩
      have hH2 : H2 A = some (DicO A xs) := k2.ext A _ hH
      have hv2 : RepKv (rdF X.K H2) kvs xs := RepKv.mono (rdF_keep (hR.kpF k2)) hv
      have h3' : (if kyOk kvs e = true then getK kvs e else none) = some r := h3
      split at h3'
      · rename_i ky
        obtain ⟨u, hg, ru⟩ := hv2.get h3'
        exact ⟨A, xs, kvs, e, u, rfl, .inl (.inl hH2), RepKv.mono rdF_L hv2, ok, r2.lent, ky, hg, k u H2 o2 noP k2 R2 s2 ru (fun _ z => z.elim) fun _ z => z.elim⟩
      · cases h3'
    | list ds =>
      obtain ⟨A, vs, eA, ho, hH, hv⟩ := hR.ownL hM hwr h0
      refine ⟨.ref A, eA, δ1, o, e, δ2, hR, h2, fun y H2 o2 p2 k2 R2 s2 r2 f2 c2 => .inl ?_⟩
      cases e <;> first | (cases h3; done) | skip
      rename_i j
      cases (show Rep (rdL X.K H2) (.int j) y from r2.lent)
      have hv2 : RepAll (rdF X.K H2) ds vs := RepAll.mono (rdF_keep (hR.kpF k2)) hv
      obtain ⟨u, hg, ru⟩ := atI_rep hv2 h3
      exact .inl ⟨A, vs, j, u, rfl, rfl, .inl (.inl (k2.ext A _ hH)), hg, k u H2 o2 noP k2 R2 s2 ru (fun _ z => z.elim) fun _ z => z.elim⟩
    | tuple ds =>
      have own : ∃ v, σ[i]? = some (some v) ∧ Rep (rdF X.K H) (.tuple ds) v := by
        obtain ⟨v, ev, q⟩ := hR.at_ i m _ hM h0
        cases m with
        | own => exact ⟨v, ev, q⟩
        | io b => exact ⟨v, ev, q.1⟩
        | _ => cases hwr
      obtain ⟨v, ev, rv⟩ := own
      refine ⟨v, ev, δ1, o, e, δ2, hR, h2, fun y H2 o2 p2 k2 R2 s2 r2 f2 c2 => .inl ?_⟩
      cases e <;> first | (cases h3; done) | skip
      rename_i j
      cases (show Rep (rdL X.K H2) (.int j) y from r2.lent)
      cases Rep.mono (rdF_keep (hR.kpF k2)) rv with
      | tup ha hb =>
        obtain ⟨u, hg, ru⟩ := atI_rep hb h3
        exact .inr (.inl ⟨_, _, j, u, rfl, rfl, TupF.sq ha, hg, k u H2 o2 noP k2 R2 s2 ru (fun _ z => z.elim) fun _ z => z.elim⟩)
    | str z =>
      have own : ∃ v, σ[i]? = some (some v) ∧ Rep (rdF X.K H) (.str z) v := by
        obtain ⟨v, ev, q⟩ := hR.at_ i m _ hM h0
        cases m with
        | own => exact ⟨v, ev, q⟩
        | io b => exact ⟨v, ev, q.1⟩
        | _ => cases hwr
      obtain ⟨v, ev, rv⟩ := own
      cases rv
      refine ⟨_, ev, δ1, o, e, δ2, hR, h2, fun y H2 o2 p2 k2 R2 s2 r2 f2 c2 => .inl ?_⟩
      cases e <;> first | (cases h3; done) | skip
      rename_i j
      cases (show Rep (rdL X.K H2) (.int j) y from r2.lent)
      simp only [ixD] at h3
      split at h3
      · rename_i hz
        obtain ⟨c, hc, rfl⟩ := Option.map_eq_some_iff.mp h3
        exact .inr (.inr ⟨z, j, c, rfl, rfl, hz, hc, k _ H2 o2 noP k2 R2 s2 (.str _) (fun _ z => z.elim) fun _ z => z.elim⟩)
      · cases h3
    | _ => cases e <;> cases h3
end
end Dn
namespace Dn
open PySem PySem.Spec PyProof.Rows L2
variable [Wd]

section
variable {P : Program} {w : World} {K : PySem.W.Frag} {mg : Str → Option Value} {base : Heap}
theorem ClI.zero {x : Str} {st : Stmt} {ps : List Str} {ms : List Md} {mr : Md} (F : Df K mg x st ps) : ClI P w K mg base 0 x ms mr (fun _ _ => none) := by
  obtain ⟨f, fd, hf, hm, hb⟩ := F.ex
  refine ⟨f, fd, ps, ⟨fun vs H Q E h => ?_, fun A outer s H args us vs Q E _ _ _ _ h => ?_⟩, hm, hf.kp, hb⟩
  · obtain ⟨_, _, _, _, _, _, _, _, _, z, _⟩ := h
    cases z
  · obtain ⟨_, _, _, _, _, _, _, _, _, z, _⟩ := h
    cases z
theorem ClI.up {x : Str} {j k : Nat} {ms : List Md} {mr : Md} {F : List D → List D → Option (D × List D)} (c : ClI P w K mg base j x ms mr F) (h : j ≤ k) : ClI P w K mg base k x ms mr F := by
  obtain ⟨f, fd, ps, a, b, d, e⟩ := c.ex
  exact ⟨f, fd, ps, a.mono h, b, d, e⟩
theorem ClB.zero {x : Str} {st : Stmt} {ps : List Str} {ms : List Md} {mr : Md} (F : Df K mg x st ps) : ClB P w K mg base 0 x ms mr (fun _ _ => none) := by
  obtain ⟨f, fd, hf, hm, hb⟩ := F.ex
  refine ⟨f, fd, ps, ⟨fun vs H Q E h => ?_, fun A outer s H args us vs Q E _ _ _ _ h => ?_⟩, hm, hf.kp, hb⟩
  · obtain ⟨_, _, _, _, _, _, _, _, _, _, z, _⟩ := h
    cases z
  · obtain ⟨_, _, _, _, _, _, _, _, _, _, z, _⟩ := h
    cases z
theorem ClB.up {x : Str} {j k : Nat} {ms : List Md} {mr : Md} {F : List D → List D → Option (D × List D)} (c : ClB P w K mg base j x ms mr F) (h : j ≤ k) : ClB P w K mg base k x ms mr F := by
  obtain ⟨f, fd, ps, a, b, d, e⟩ := c.ex
  exact ⟨f, fd, ps, a.mono h, b, d, e⟩
end

inductive KDe (K : PySem.W.Frag) : List (D × D) → List DictEntry → Prop
  | nil : KDe K [] []
  | cons {k d : D} {kvs : List (D × D)} {e : DictEntry} {es : List DictEntry} : KD K k e.key → e.hash = hk0 k → KD K d e.val → KDe K kvs es → KDe K ((k, d) :: kvs) (e :: es)
theorem KDe.rep {K : PySem.W.Frag} : ∀ {kvs : List (D × D)} {es : List DictEntry}, KDe K kvs es → (∀ p ∈ kvs, szD p.1 = true ∧ szD p.2 = true) → ∃ xs, Paired EntR xs es ∧ ∀ H, RepKv (rdF K H) kvs xs
  | _, _, .nil, _ => ⟨[], .nil, fun _ => .nil⟩
  | _, _, .cons (k := k) (d := d) h1 h2 h3 t, hz => by
    obtain ⟨xs, p, r⟩ := KDe.rep t fun q hq => hz q (List.mem_cons_of_mem _ hq)
    obtain ⟨z1, z2⟩ := hz (k, d) List.mem_cons_self
    obtain ⟨kv, rk, Rk⟩ := h1.rep z1
    obtain ⟨v, rv, Rv⟩ := h3.rep z2
    exact ⟨(kv, hk0 k, v) :: xs, .cons ⟨rk, h2, rv⟩ p, fun H => .cons (Rk H) (Rv H) (r H)⟩
theorem Kon.dict {K : PySem.W.Frag} {h : Heap} {mg : Str → Option Value} {x : Str} {kvs : List (D × D)} {a : Addr} {o : Obj} {es : Array DictEntry} {ep : Nat} (X : K.In h) (G : h.Ns mainGlobals mg) (n : PySem.W.nsIn K mainGlobals x = some (some (.ref a))) (hl : K.lookup a = some o) (ho : o.ExactDict) (hd : o.data = .dict es ep)
    (hs : (a == sysModules) = false) (r : KDe K kvs es.toList) (ok : dkB kvs = true) (hz : ∀ p ∈ kvs, szD p.1 = true ∧ szD p.2 = true) : Kon K mg x (.dict kvs) := by
  obtain ⟨xs, p, rr⟩ := r.rep hz
  exact ⟨.ref a, .ref a, PySem.W.mg_of X G n, rfl, fun H => .dic ⟨o, .inr ⟨hl, hs, ho, es, ep, hd, p⟩⟩ (rr H) (dkB_ok ok)⟩
end Dn
namespace Lb
open PySem Dn

def k_FIRST_POSE : D := .tuple [.tuple [.int 0, .int 0, .int 0, .int 0], .int 0]
def k_HEADINGS : D := .int 8
def e1_added : CE := (c2 addD (rd 2) (rd 3))
def den_added : CS := (seqS (rtS (cN tupleD (aCons (lcV (rgV zipD (aCons (rd 0) (aCons (rd 1) aNil))) (tgT 2 (tCons' (stS 2) (tCons' (stS 3) tNil'))) [2, 3] yesT e1_added) aNil))) skip)
def F_added := fnF den_added 4 2
def e1_taken_off : CE := (c2 subD (rd 2) (rd 3))
def den_taken_off : CS := (seqS (rtS (cN tupleD (aCons (lcV (rgV zipD (aCons (rd 0) (aCons (rd 1) aNil))) (tgT 2 (tCons' (stS 2) (tCons' (stS 3) tNil'))) [2, 3] yesT e1_taken_off) aNil))) skip)
def F_taken_off := fnF den_taken_off 4 2
def b1_turned_spot : CS := (seqS (asgS (stS 0) (tupV (aCons (c1 negD (c2 ixD (rd 0) (cst (.int 3)))) (aCons (c2 ixD (rd 0) (cst (.int 0))) (aCons (c2 ixD (rd 0) (cst (.int 1))) (aCons (c2 ixD (rd 0) (cst (.int 2))) aNil)))))) skip)
def den_turned_spot : CS := (seqS (forS (rgV rg1 (aCons (c2 modD (rd 1) (cst k_HEADINGS)) aNil)) (stS 2) b1_turned_spot) (seqS (rtS (rd 0)) skip))
def F_turned_spot := fnF den_turned_spot 3 2
def den_along : CS := (seqS (rtS (cN F_turned_spot (aCons (tupV (aCons (rd 1) (aCons (cst (.int 0)) (aCons (cst (.int 0)) (aCons (cst (.int 0)) aNil))))) (aCons (rd 0) aNil)))) skip)
def F_along := fnF den_along 2 2
def den_turn_of : CS := (seqS (rtS (dgV [("left", .int 1), ("right", .int (-1)), ("straight", .int 0)] (c2 ixD (rd 0) (cst (.int 0))))) skip)
def F_turn_of := fnF den_turn_of 1 1
def den_step_of : CS := (seqS (asgS (tgT 2 (tCons' (stS 2) (tCons' (stS 3) tNil'))) (rd 0)) (seqS (ifS (tstB (c2 eqD (rd 2) (cst (.str "straight")))) (seqS (rtS (cN F_along (aCons (rd 1) (aCons (rd 3) aNil)))) skip) skip) (seqS (ifS (tstB (c2 eqD (rd 2) (cst (.str "left")))) (seqS (rtS (cN F_taken_off (aCons (cN F_along (aCons (c2 addD (rd 1) (cst (.int 2))) (aCons (rd 3) aNil))) (aCons (cN F_along (aCons (c2 addD (rd 1) (cst (.int 3))) (aCons (rd 3) aNil))) aNil)))) skip) skip) (seqS (rtS (cN F_taken_off (aCons (cN F_along (aCons (c2 addD (rd 1) (cst (.int 1))) (aCons (rd 3) aNil))) (aCons (cN F_along (aCons (c2 addD (rd 1) (cst (.int 2))) (aCons (rd 3) aNil))) aNil)))) skip))))
def F_step_of := fnF den_step_of 4 2
def den_pose_behind : CS := (seqS (asgS (tgT 2 (tCons' (stS 2) (tCons' (stS 3) tNil'))) (rd 0)) (seqS (rtS (tupV (aCons (cN F_added (aCons (rd 2) (aCons (cN F_step_of (aCons (rd 1) (aCons (rd 3) aNil))) aNil))) (aCons (c2 modD (c2 addD (rd 3) (cN F_turn_of (aCons (rd 1) aNil))) (cst k_HEADINGS)) aNil)))) skip))
def F_pose_behind := fnF den_pose_behind 4 2
def b1_poses_along : CS := (seqS (apS 2 (cN F_pose_behind (aCons (c2 ixD (rd 2) (c1 negD (cst (.int 1)))) (aCons (rd 3) aNil)))) skip)
def den_poses_along : CS := (seqS (asgS (stS 2) (lstV (aCons (rd 0) aNil))) (seqS (forS (seqI (rd 1)) (stS 3) b1_poses_along) (seqS (rtS (cN tupleD (aCons (rd 2) aNil))) skip)))
def F_poses_along := fnF den_poses_along 4 2
def den_pose_after : CS := (seqS (rtS (c2 ixD (cN F_poses_along (aCons (rd 0) (aCons (rd 1) aNil))) (c1 negD (cst (.int 1))))) skip)
def F_pose_after := fnF den_pose_after 2 2
def den_is_closed : CS := (seqS (rtS (andV (c2 neD (rd 0) (tupV aNil)) (c2 eqD (cN F_pose_after (aCons (cst k_FIRST_POSE) (aCons (rd 0) aNil))) (cst k_FIRST_POSE)))) skip)
def F_is_closed := fnF den_is_closed 1 1
def e1__law_same (rec : List D → Option D) : CE := (cN rec (aCons (c2 ixD (rd 0) (rd 2)) (aCons (c2 ixD (rd 1) (rd 2)) aNil)))
def den__law_same (rec : List D → Option D) : CS := (seqS (ifS (orT (andT (tst (isiW "tuple" (rd 0))) (tst (isiW "tuple" (rd 1)))) (andT (tst (isiW "list" (rd 0))) (tst (isiW "list" (rd 1))))) (seqS (rtS (andV (c2 eqD (cN lenD (aCons (rd 0) aNil)) (cN lenD (aCons (rd 1) aNil))) (cN allD (aCons (lcV (rgV rg1 (aCons (cN lenD (aCons (rd 0) aNil)) aNil)) (stS 2) [2] yesT (e1__law_same rec)) aNil)))) skip) skip) (seqS (ifS (orT (tst (isiW "bool" (rd 0))) (tst (isiW "bool" (rd 1)))) (seqS (rtS (andV (isiW "bool" (rd 0)) (andV (isiW "bool" (rd 1)) (c2 eqD (rd 0) (rd 1))))) skip) skip) (seqS (ifS (orT (andT (tst (isiW "int" (rd 0))) (tst (isiW "int" (rd 1)))) (andT (tst (isiW "str" (rd 0))) (tst (isiW "str" (rd 1))))) (seqS (rtS (c2 eqD (rd 0) (rd 1))) skip) skip) (seqS (rtS (andV (c2 isD (rd 0) (cst .none)) (c2 isD (rd 1) (cst .none)))) skip))))
def F__law_same : Nat → List D → Option D
  | 0 => fun _ => none
  | n + 1 => fnF (den__law_same (F__law_same n)) 3 2
def b1__law_turned : CS := (seqS (asgS (stS 0) (tupV (aCons (c2 subD (cst (.int 0)) (c2 ixD (rd 0) (cst (.int 3)))) (aCons (c2 ixD (rd 0) (cst (.int 0))) (aCons (c2 ixD (rd 0) (cst (.int 1))) (aCons (c2 ixD (rd 0) (cst (.int 2))) aNil)))))) skip)
def den__law_turned : CS := (seqS (forS (rgV rg1 (aCons (c2 subD (rd 1) (c2 mulD (c2 fdivD (rd 1) (cst (.int 8))) (cst (.int 8)))) aNil)) (stS 2) b1__law_turned) (seqS (rtS (rd 0)) skip))
def F__law_turned := fnF den__law_turned 3 2
end Lb
namespace Lb
open PySem Dn

def den__law_box : CS := (seqS (rtS (boxV (cN listD (aCons (slV (rd 0) noPt (ptOf (cst (.int 63)))) aNil)) (cst (.int 0)) (c2 addD (cst (.int 4711)) (cN lenD (aCons (rd 0) aNil))))) skip)
def F__law_box := fnR den__law_box 1 1
def den__law_load : CS := (seqS (cellS 0 1) (seqS (ifS (tstB (c2 gtD (hasC 1 (lenCV 0)) (cst (.int 0)))) (seqS (asgS (stS 2) (cN intD (aCons (hasC 1 (popCV 0)) aNil))) (seqS (asgS (stS 3) (ifV (tstB (c2 geD (rd 2) (cst (.int 0)))) (c2 mulD (cst (.int 2)) (rd 2)) (c2 subD (c2 mulD (c1 negD (cst (.int 2))) (rd 2)) (cst (.int 1))))) (seqS (ifS (tstB (c2 geD (rd 3) (cst (.int 1000000000000000000)))) (seqS (rtS (rd 3)) skip) skip) (seqS (stB 0 2 (c2 modD (cN intD (aCons (c2 addD (c2 addD (c2 mulD (c2 ixD (rd 0) (cst (.int 2))) (cst (.int 69621))) (c2 mulD (rd 3) (cst (.int 48271)))) (cst (.int 11))) aNil)) (cst (.int 2147483647)))) skip)))) skip) (seqS (asgS (stS 4) (c2 modD (cN intD (aCons (c2 addD (c2 mulD (c2 ixD (rd 0) (cst (.int 2))) (cst (.int 48271))) (cst (.int 17))) aNil)) (cst (.int 2147483629)))) (seqS (asgS (stS 5) (c2 modD (cN intD (aCons (c2 addD (c2 mulD (rd 4) (cst (.int 69621))) (cst (.int 5))) aNil)) (cst (.int 2147483587)))) (seqS (stB 0 2 (c2 modD (cN intD (aCons (c2 addD (c2 mulD (rd 5) (cst (.int 40692))) (cst (.int 3))) aNil)) (cst (.int 2147483563)))) (seqS (rtS (c2 addD (c2 addD (c2 mulD (rd 4) (cst (.int 4611686014132420609))) (c2 mulD (rd 5) (cst (.int 2147483647)))) (c2 ixD (rd 0) (cst (.int 2))))) skip))))))
def F__law_load := fnI den__law_load 6 1
def den__law_draw : CS := (seqS (ifS (tstB (c2 ltD (c2 ixD (rd 0) (cst (.int 1))) (rd 1))) (seqS (stB 0 1 (ioV 0 F__law_load aNil)) skip) skip) (seqS (asgS (stS 2) (c2 modD (cN intD (aCons (c2 ixD (rd 0) (cst (.int 1))) aNil)) (rd 1))) (seqS (stB 0 1 (c2 fdivD (c2 ixD (rd 0) (cst (.int 1))) (rd 1))) (seqS (rtS (rd 2)) skip))))
def F__law_draw := fnI den__law_draw 3 2
end Lb
namespace Lb
open PySem hiding Env
open Dn
variable [Wd]

theorem fnF_rt {g : CS} {n m : Nat} {ds : List D} {d : D} {δ : Env} (hl : ds.length = m) (h : g (ent n ds) = some (.rt d δ)) : fnF g n m ds = some d := by
  unfold fnF
  rw [if_pos hl, h]
  rfl
theorem fnI_rt {g : CS} {n m : Nat} {ds0 ds l : List D} {d : D} {δ : Env} (hl : ds.length + 1 = m) (h : g (ent n (.list ds0 :: ds)) = some (.rt d δ)) (h2 : io0 δ = some l) : fnI g n m ds0 ds = some (d, l) := by
  unfold fnI
  rw [if_pos hl, h]
  show (io0 δ).map _ = _
  rw [h2]
  rfl
theorem seqS_nx {g h : CS} {δ δ1 : Env} (e : g δ = some (.nx δ1)) : seqS g h δ = h δ1 := by unfold seqS; rw [e]; rfl
theorem seqS_rt {g h : CS} {δ δ1 : Env} {d : D} (e : g δ = some (.rt d δ1)) : seqS g h δ = some (.rt d δ1) := by unfold seqS; rw [e]; rfl
theorem ifS_t {t : CT} {g h : CS} {δ δ1 : Env} (e : t δ = some (true, δ1)) : ifS t g h δ = g δ1 := by unfold ifS; rw [e]; rfl
theorem ifS_f {t : CT} {g h : CS} {δ δ1 : Env} (e : t δ = some (false, δ1)) : ifS t g h δ = h δ1 := by unfold ifS; rw [e]; rfl
theorem asgS_ev {t : CG} {f : CE} {δ δ1 δ2 : Env} {d : D} (e : f δ = some (d, δ1)) (h : t d δ1 = some δ2) : asgS t f δ = some (.nx δ2) := by
  unfold asgS
  rw [e]
  show (t d δ1).bind _ = _
  rw [h]
  rfl
theorem rtS_ev {f : CE} {δ δ1 : Env} {d : D} (e : f δ = some (d, δ1)) : rtS f δ = some (.rt d δ1) := by unfold rtS; rw [e]; rfl
theorem cN_ev {φ : List D → Option D} {f : CA} {δ δ1 : Env} {ds : List D} {d : D} (e : f δ = some (ds, δ1)) (h : φ ds = some d) : cN φ f δ = some (d, δ1) := by
  unfold cN
  rw [e]
  show (φ ds).bind _ = _
  rw [h]
  rfl
theorem aCons_ev {f : CE} {g : CA} {δ δ1 δ2 : Env} {d : D} {ds : List D} (e : f δ = some (d, δ1)) (h : g δ1 = some (ds, δ2)) : aCons f g δ = some (d :: ds, δ2) := by
  unfold aCons
  rw [e]
  show (g δ1).bind _ = _
  rw [h]
  rfl
theorem c2_ev {φ : D → D → Option D} {f g : CE} {δ δ1 δ2 : Env} {d e r : D} (h1 : f δ = some (d, δ1)) (h2 : g δ1 = some (e, δ2)) (h3 : φ d e = some r) : c2 φ f g δ = some (r, δ2) := by
  unfold c2
  rw [h1]
  show (g δ1).bind _ = _
  rw [h2]
  show (φ d e).bind _ = _
  rw [h3]
  rfl
theorem c1_ev {φ : D → Option D} {f : CE} {δ δ1 : Env} {d r : D} (h1 : f δ = some (d, δ1)) (h3 : φ d = some r) : c1 φ f δ = some (r, δ1) := by
  unfold c1
  rw [h1]
  show (φ d).bind _ = _
  rw [h3]
  rfl
theorem tupV_ev {f : CA} {δ δ1 : Env} {ds : List D} (e : f δ = some (ds, δ1)) : tupV f δ = some (.tuple ds, δ1) := by unfold tupV; rw [e]; rfl
theorem lstV_ev {f : CA} {δ δ1 : Env} {ds : List D} (e : f δ = some (ds, δ1)) : lstV f δ = some (.list ds, δ1) := by unfold lstV; rw [e]; rfl
theorem ifV_t {t : CT} {g h : CE} {δ δ1 : Env} (e : t δ = some (true, δ1)) : ifV t g h δ = g δ1 := by unfold ifV; rw [e]; rfl
theorem ifV_f {t : CT} {g h : CE} {δ δ1 : Env} (e : t δ = some (false, δ1)) : ifV t g h δ = h δ1 := by unfold ifV; rw [e]; rfl
theorem andV_t {f g : CE} {δ δ1 : Env} {d : D} (e : f δ = some (d, δ1)) (h : truD d = some true) : andV f g δ = g δ1 := by
  unfold andV
  rw [e]
  show (truD d).bind _ = _
  rw [h]
  rfl
theorem andV_f {f g : CE} {δ δ1 : Env} {d : D} (e : f δ = some (d, δ1)) (h : truD d = some false) : andV f g δ = some (d, δ1) := by
  unfold andV
  rw [e]
  show (truD d).bind _ = _
  rw [h]
  rfl
theorem orV_t {f g : CE} {δ δ1 : Env} {d : D} (e : f δ = some (d, δ1)) (h : truD d = some true) : orV f g δ = some (d, δ1) := by
  unfold orV
  rw [e]
  show (truD d).bind _ = _
  rw [h]
  rfl
theorem orV_f {f g : CE} {δ δ1 : Env} {d : D} (e : f δ = some (d, δ1)) (h : truD d = some false) : orV f g δ = g δ1 := by
  unfold orV
  rw [e]
  show (truD d).bind _ = _
  rw [h]
  rfl
theorem tstB_ev {f : CE} {δ δ1 : Env} {b : Bool} (e : f δ = some (.bool b, δ1)) : tstB f δ = some (b, δ1) := by unfold tstB; rw [e]; rfl
theorem tst_ev {f : CE} {δ δ1 : Env} {d : D} {b : Bool} (e : f δ = some (d, δ1)) (h : truD d = some b) : tst f δ = some (b, δ1) := by
  unfold tst
  rw [e]
  show (truD d).bind _ = _
  rw [h]
  rfl
theorem forS_ev {f : CA} {t : CG} {g : CS} {δ δ1 : Env} {ds : List D} (e : f δ = some (ds, δ1)) : forS f t g δ = forL t g ds δ1 := by unfold forS; rw [e]; rfl
theorem rgV_ev {φ : List D → Option (List D)} {f : CA} {δ δ1 : Env} {as ds : List D} (e : f δ = some (as, δ1)) (h : φ as = some ds) : rgV φ f δ = some (ds, δ1) := by
  unfold rgV
  rw [e]
  show ((φ as).bind _) = _
  rw [h]
  rfl
theorem seqI_ev {f : CE} {δ δ1 : Env} {d : D} {ds : List D} (e : f δ = some (d, δ1)) (h : itemsD d = some ds) : seqI f δ = some (ds, δ1) := by
  unfold seqI
  rw [e]
  show ((itemsD d).bind _) = _
  rw [h]
  rfl
theorem slV_ev {f : CE} {lo hi : CP} {δ δ1 δ2 δ3 : Env} {d r : D} {l u : Option Int} (h1 : f δ = some (d, δ1)) (h2 : lo δ1 = some (l, δ2)) (h3 : hi δ2 = some (u, δ3)) (h4 : slD d l u = some r) : slV f lo hi δ = some (r, δ3) := by
  unfold slV
  rw [h1]
  dsimp only [Option.bind_some]
  rw [h2]
  dsimp only [Option.bind_some]
  rw [h3]
  dsimp only [Option.bind_some]
  rw [h4]
  rfl
theorem slD_list {ds : List D} {l u : Option Int} (h : immutAll ds = true) : slD (.list ds) l u = some (.list (cutD ds l u)) := by
  show (if immutAll ds = true then _ else _) = _
  rw [if_pos h]
theorem slD_tuple {ds : List D} {l u : Option Int} (h : immutAll ds = true) : slD (.tuple ds) l u = some (.tuple (cutD ds l u)) := by
  show (if immutAll ds = true then _ else _) = _
  rw [if_pos h]
theorem listD_list {ds : List D} (h : immutAll ds = true) : listD [.list ds] = some (.list ds) := by
  show (if immutAll ds = true then _ else _) = _
  rw [if_pos h]
theorem tupleD_list {ds : List D} (h : immutAll ds = true) : tupleD [.list ds] = some (.tuple ds) := by
  show (if immutAll ds = true then _ else _) = _
  rw [if_pos h]
theorem cut_take (ds : List D) (n : Nat) : cutD ds none (some (n : Int)) = ds.take n := by
  unfold cutD
  rw [HT.sIx_nat, HT.sIx_none, Nat.sub_zero, List.drop_zero, ← List.take_take, List.take_length]
theorem forL_nx {t : CG} {g : CS} {d : D} {ds : List D} {δ δ1 δ2 : Env} (h1 : t d δ = some δ1) (h2 : g δ1 = some (.nx δ2)) : forL t g (d :: ds) δ = forL t g ds δ2 := by
  show ((t d δ).bind _) = _
  rw [h1]
  show ((g δ1).bind _) = _
  rw [h2]
  rfl
theorem forL_ct {t : CG} {g : CS} {d : D} {ds : List D} {δ δ1 δ2 : Env} (h1 : t d δ = some δ1) (h2 : g δ1 = some (.ct δ2)) : forL t g (d :: ds) δ = forL t g ds δ2 := by
  show ((t d δ).bind _) = _
  rw [h1]
  show ((g δ1).bind _) = _
  rw [h2]
  rfl
/-- a comprehension without a test: every item gives φ of it; I: what the environments are -/
theorem lcL_map {t : CG} {own : List Nat} {f : CE} {φ : D → D} (I : Env → Prop) : ∀ {ds : List D} {δ : Env}, I δ → (∀ d ∈ ds, ∀ δ, I δ → ∃ δ1 δ2, t d (wipeD δ own) = some δ1 ∧ f δ1 = some (φ d, δ2) ∧ I δ2) → ∃ δ', lcL t own yesT f ds δ = some (ds.map φ, δ') ∧ I δ'
  | [], δ, h, _ => ⟨δ, rfl, h⟩
  | d :: ds, δ, h, hs => by
    obtain ⟨δ1, δ2, e1, e2, h2⟩ := hs d List.mem_cons_self δ h
    obtain ⟨δ', e3, h3⟩ := lcL_map I (ds := ds) h2 fun d hd => hs d (List.mem_cons_of_mem _ hd)
    refine ⟨δ', ?_, h3⟩
    show ((t d (wipeD δ own)).bind _) = _
    rw [e1]
    show ((f δ1).bind _) = _
    rw [e2]
    show ((lcL t own yesT f ds δ2).bind _) = _
    rw [e3]
    rfl
theorem lcV_ev {fa : CA} {t : CG} {own : List Nat} {c : CT} {f : CE} {δ δ1 δ2 : Env} {ds es : List D} (h1 : fa δ = some (ds, δ1)) (h2 : lcL t own c f ds δ1 = some (es, δ2)) : lcV fa t own c f δ = some (.list es, backD δ1 δ2 own) := by
  unfold lcV
  rw [h1]
  show ((lcL t own c f ds δ1).bind _) = _
  rw [h2]
  rfl

abbrev Spot := Int × Int × Int × Int
def encS (s : Spot) : D := .tuple [.int s.1, .int s.2.1, .int s.2.2.1, .int s.2.2.2]
def rot (s : Spot) : Spot := (-s.2.2.2, s.1, s.2.1, s.2.2.1)
def rotN : Nat → Spot → Spot
  | 0, s => s
  | n + 1, s => rotN n (rot s)
def sadd (s t : Spot) : Spot := (s.1 + t.1, s.2.1 + t.2.1, s.2.2.1 + t.2.2.1, s.2.2.2 + t.2.2.2)
def ssub (s t : Spot) : Spot := (s.1 - t.1, s.2.1 - t.2.1, s.2.2.1 - t.2.2.1, s.2.2.2 - t.2.2.2)
theorem added_eq (s t : Spot) : F_added [encS s, encS t] = some (encS (sadd s t)) := by kernel_rfl
theorem taken_off_eq (s t : Spot) : F_taken_off [encS s, encS t] = some (encS (ssub s t)) := by kernel_rfl
theorem turned_loop (k : Option D) : ∀ (ds : List D) (s : Spot) (x : Option D), ∃ y, forL (stS 2) b1_turned_spot ds [some (encS s), k, x] = some (.nx [some (encS (rotN ds.length s)), k, y])
  | [], s, x => ⟨x, rfl⟩
  | d :: ds, s, x => by
    obtain ⟨y, h⟩ := turned_loop k ds (rot s) (some d)
    exact ⟨y, (forL_nx (δ1 := [some (encS s), k, some d]) (δ2 := [some (encS (rot s)), k, some d]) rfl rfl).trans h⟩
/-- turned by k eighths -/
def turn (k : Int) (s : Spot) : Spot := rotN (k % 8).toNat s
theorem fmod8 (k : Int) : k.fmod 8 = k % 8 := by
  rw [Int.fmod_eq_emod_of_nonneg _ (by decide)]
theorem rg1_ev {n : Int} (h0 : 0 ≤ n) (h1 : n ≤ 16777216) : rg1 [.int n] = some (rgI 0 n.toNat) := by
  show (if inB n = true ∧ n.toNat ≤ PySem.sizeLine then some (rgI 0 n.toNat) else none) = _
  rw [if_pos (by
    refine ⟨?_, ?_⟩
    · unfold inB
      simp only [Bool.and_eq_true, decide_eq_true_eq]
      omega
    · show n.toNat ≤ 16777216
      omega)]
theorem turned_spot_eq (s : Spot) (k : Int) : F_turned_spot [encS s, .int k] = some (encS (turn k s)) := by
  have h0 : 0 ≤ k % 8 := by omega
  have h1 : k % 8 < 8 := by omega
  obtain ⟨y, h⟩ := turned_loop (some (.int k)) (rgI 0 (k % 8).toNat) s none
  rw [rgI_length] at h
  refine fnF_rt rfl ((seqS_nx (δ1 := _) ((forS_ev (ds := rgI 0 (k % 8).toNat) (δ1 := [some (encS s), some (.int k), none]) ?_).trans h)).trans rfl)
  show ((rg1 [.int (k.fmod 8)]).bind _) = _
  rw [fmod8, rg1_ev h0 (by omega)]
  rfl
end Lb
namespace Lb
open PySem hiding Env
open Dn
variable [Wd]

inductive Ok : Nat → D → Prop
  | non {n : Nat} : Ok n .none
  | bl {n : Nat} (b : Bool) : Ok n (.bool b)
  | int {n : Nat} (i : Int) : Ok n (.int i)
  | str {n : Nat} {x : Str} : PyData.canLay0 (.str x) = true → Ok n (.str x)
  | tup {n : Nat} {ds : List D} : (∀ d ∈ ds, Ok n d) → ds.length ≤ 16777216 → Ok (n + 1) (.tuple ds)
  | lst {n : Nat} {ds : List D} : (∀ d ∈ ds, Ok n d) → ds.length ≤ 16777216 → Ok (n + 1) (.list ds)
theorem lay_all {ds : List D} (h : ∀ d ∈ ds, PyData.canLay0 d = true) : PyData.canLayAll0 ds = true := by
  induction ds with
  | nil => simp [PyData.canLayAll0]
  | cons d ds ih =>
    simp only [PyData.canLayAll0, Bool.and_eq_true]
    exact ⟨h d List.mem_cons_self, ih fun e he => h e (List.mem_cons_of_mem _ he)⟩
theorem depth_all {ds : List D} {n : Nat} (h : ∀ d ∈ ds, PyData.depth d ≤ n) : PyData.depthAll ds ≤ n := by
  induction ds with
  | nil => simp [PyData.depthAll]
  | cons d ds ih =>
    simp only [PyData.depthAll]
    exact Nat.max_le.mpr ⟨h d List.mem_cons_self, ih fun e he => h e (List.mem_cons_of_mem _ he)⟩
theorem Ok.lay {n : Nat} {d : D} (h : Ok n d) : PyData.canLay0 d = true := by
  induction h with
  | non => simp [PyData.canLay0]
  | bl => simp [PyData.canLay0]
  | int => simp [PyData.canLay0]
  | str h => exact h
  | tup _ _ ih => simp only [PyData.canLay0]; exact lay_all ih
  | lst _ _ ih => simp only [PyData.canLay0]; exact lay_all ih
theorem Ok.depth {n : Nat} {d : D} (h : Ok n d) : PyData.depth d ≤ n := by
  induction h with
  | non => simp [PyData.depth]
  | bl => simp [PyData.depth]
  | int => simp [PyData.depth]
  | str h => simp [PyData.depth]
  | tup _ _ ih => simp only [PyData.depth]; exact Nat.succ_le_succ (depth_all ih)
  | lst _ _ ih => simp only [PyData.depth]; exact Nat.succ_le_succ (depth_all ih)
theorem Ok.shaped {n : Nat} {d : D} (h : Ok n d) (hn : n ≤ 64) : SeqAt.shaped d = true := by
  unfold SeqAt.shaped
  rw [h.lay, Bool.true_and, decide_eq_true_eq]
  exact Nat.le_trans h.depth hn
theorem Ok.up {n : Nat} {d : D} (h : Ok n d) : ∀ {m : Nat}, n ≤ m → Ok m d := by
  induction h with
  | non => exact fun _ => .non
  | bl b => exact fun _ => .bl b
  | int i => exact fun _ => .int i
  | str h => exact fun _ => .str h
  | tup _ hl ih =>
    intro m hm
    cases m with
    | zero => omega
    | succ m => exact .tup (fun d hd => ih d hd (by omega)) hl
  | lst _ hl ih =>
    intro m hm
    cases m with
    | zero => omega
    | succ m => exact .lst (fun d hd => ih d hd (by omega)) hl
theorem Ok.t2 {n : Nat} {a b : D} (ha : Ok n a) (hb : Ok n b) : Ok (n + 1) (.tuple [a, b]) := .tup (fun d hd => by
  simp only [List.mem_cons, List.not_mem_nil, or_false] at hd
  rcases hd with rfl | rfl
  · exact ha
  · exact hb) (by show 2 ≤ _; decide)
theorem imm_all {ds : List D} (h : ∀ d ∈ ds, immut d = true) : immutAll ds = true := by
  induction ds with
  | nil => simp [immutAll]
  | cons d ds ih =>
    simp only [immutAll, Bool.and_eq_true]
    exact ⟨h d List.mem_cons_self, ih fun e he => h e (List.mem_cons_of_mem _ he)⟩
mutual
/-- without bools and dicts -/
def nob : D → Bool
  | .none => true
  | .bool _ => false
  | .int _ => true
  | .str _ => true
  | .list ds => nobAll ds
  | .tuple ds => nobAll ds
  | .dict _ => false
def nobAll : List D → Bool
  | [] => true
  | d :: ds => nob d && nobAll ds
end
mutual
theorem eqv_iff : ∀ (d e : D), nob d = true → nob e = true → (PyData.eqv d e = true ↔ d = e)
  | .none, e, _, h2 => by cases e <;> simp [PyData.eqv, nob] at h2 ⊢
  | .bool _, _, h, _ => by simp [nob] at h
  | .int i, e, _, h2 => by cases e <;> simp [PyData.eqv, nob] at h2 ⊢
  | .str x, e, _, h2 => by cases e <;> simp [PyData.eqv, nob] at h2 ⊢
  | .list ds, e, h, h2 => by
    cases e <;> simp only [PyData.eqv, nob, reduceCtorEq, Bool.false_eq_true, PyData.list.injEq] at h h2 ⊢
    exact eqvAll_iff _ _ h h2
  | .tuple ds, e, h, h2 => by
    cases e <;> simp only [PyData.eqv, nob, reduceCtorEq, Bool.false_eq_true, PyData.tuple.injEq] at h h2 ⊢
    exact eqvAll_iff _ _ h h2
  | .dict _, _, h, _ => by simp [nob] at h
theorem eqvAll_iff : ∀ (ds es : List D), nobAll ds = true → nobAll es = true → (PyData.eqvAll ds es = true ↔ ds = es)
  | [], [], _, _ => by simp [PyData.eqvAll]
  | [], _ :: _, _, _ => by simp [PyData.eqvAll]
  | _ :: _, [], _, _ => by simp [PyData.eqvAll]
  | d :: ds, e :: es, h, h2 => by
    simp only [nobAll, Bool.and_eq_true] at h h2
    simp only [PyData.eqvAll, Bool.and_eq_true, List.cons.injEq]
    rw [eqv_iff d e h.1 h2.1, eqvAll_iff ds es h.2 h2.2]
end
mutual
theorem eqv_self : ∀ (d : D), PyData.canLay0 d = true → PyData.eqv d d = true
  | .none, _ => by simp [PyData.eqv]
  | .bool _, _ => by simp [PyData.eqv]
  | .int i, _ => by simp [PyData.eqv]
  | .str x, _ => by simp [PyData.eqv]
  | .list ds, h => by
    simp only [PyData.eqv]
    exact eqvAll_self ds (by simpa only [PyData.canLay0] using h)
  | .tuple ds, h => by
    simp only [PyData.eqv]
    exact eqvAll_self ds (by simpa only [PyData.canLay0] using h)
  | .dict _, h => by simp [PyData.canLay0] at h
theorem eqvAll_self : ∀ (ds : List D), PyData.canLayAll0 ds = true → PyData.eqvAll ds ds = true
  | [], _ => by simp [PyData.eqvAll]
  | d :: ds, h => by
    simp only [PyData.canLayAll0, Bool.and_eq_true] at h
    simp only [PyData.eqvAll, Bool.and_eq_true]
    exact ⟨eqv_self d h.1, eqvAll_self ds h.2⟩
end
theorem eqD_ev {d e : D} {n : Nat} (hd : Ok n d) (he : Ok n e) (hn : n ≤ 64) : eqD d e = some (.bool (PyData.eqv d e)) := by
  unfold eqD
  rw [if_pos ⟨hd.shaped hn, he.shaped hn⟩]
theorem neD_ev {d e : D} {n : Nat} (hd : Ok n d) (he : Ok n e) (hn : n ≤ 64) : neD d e = some (.bool (!PyData.eqv d e)) := by
  unfold neD
  rw [if_pos ⟨hd.shaped hn, he.shaped hn⟩]
theorem eqD_int (i j : Int) : eqD (.int i) (.int j) = some (.bool (decide (i = j))) := by
  rw [eqD_ev (n := 0) (.int i) (.int j) (by omega)]
  simp only [PyData.eqv]
  rfl

theorem isiW_ev {T : String} {f : CE} {δ δ1 : Env} {d : D} (h : f δ = some (d, δ1)) (hd : noDic d = true) : isiW T f δ = some (.bool (isiB T d), δ1) := c1_ev h (by rw [if_pos hd])
theorem atI_nat {ds : List D} {i : Nat} {d : D} (h : ds[i]? = some d) : L2.atI ds (i : Int) = some d := by
  have hi : i < ds.length := (List.getElem?_eq_some_iff.mp h).1
  unfold L2.atI L2.ixN
  rw [if_pos (by omega), if_pos (by omega)]
  show ds[((i : Int)).toNat]? = some d
  rw [Int.toNat_natCast, h]
theorem all_true (ds : List D) : allD [.list (ds.map fun _ => PyData.bool true)] = some (.bool true) := by
  have h : asBools (ds.map fun _ => PyData.bool true) = some (ds.map fun _ => true) := by
    induction ds with
    | nil => rfl
    | cons d ds ih =>
      show ((asBools (ds.map fun _ => PyData.bool true)).map (true :: ·)) = _
      rw [ih]
      rfl
  show ((asBools _).map _) = _
  rw [h]
  show some (PyData.bool (List.all _ _)) = _
  congr 2
  simp
theorem rgI_mem {n : Nat} {d : D} (h : d ∈ rgI 0 n) : ∃ i : Nat, i < n ∧ d = .int i := by
  unfold rgI at h
  obtain ⟨i, hi, e⟩ := List.mem_map.mp h
  exact ⟨i, List.mem_range.mp hi, by rw [← e]; simp⟩
theorem rg1_len {n : Nat} (h : n ≤ 16777216) : rg1 [.int n] = some (rgI 0 n) := by
  rw [rg1_ev (by omega) (by omega), Int.toNat_natCast]
theorem same_seq {n : Nat} {d : D} {ds : List D} (rec : List D → Option D) (hl : ds.length ≤ 16777216) (hix : ∀ i : Nat, ∀ e, ds[i]? = some e → ixD d (.int i) = some e) (hlen : lenD [d] = some (.int ds.length)) (hrec : ∀ e ∈ ds, rec [e, e] = some (.bool true)) :
    (andV (c2 eqD (cN lenD (aCons (rd 0) aNil)) (cN lenD (aCons (rd 1) aNil))) (cN allD (aCons (lcV (rgV rg1 (aCons (cN lenD (aCons (rd 0) aNil)) aNil)) (stS 2) [2] yesT (e1__law_same rec)) aNil))) [some d, some d, none] = some (.bool true, [some d, some d, none]) := by
  have l0 : cN lenD (aCons (rd 0) aNil) [some d, some d, none] = some (.int ds.length, [some d, some d, none]) := cN_ev (aCons_ev rfl rfl) hlen
  have l1 : cN lenD (aCons (rd 1) aNil) [some d, some d, none] = some (.int ds.length, [some d, some d, none]) := cN_ev (aCons_ev rfl rfl) hlen
  have e0 : c2 eqD (cN lenD (aCons (rd 0) aNil)) (cN lenD (aCons (rd 1) aNil)) [some d, some d, none] = some (.bool true, [some d, some d, none]) := c2_ev l0 l1 (by rw [eqD_int]; simp)
  unfold andV
  rw [e0]
  show (cN allD _ _) = _
  obtain ⟨δ', h1, y, rfl⟩ := lcL_map (t := stS 2) (own := [2]) (f := e1__law_same rec) (φ := fun _ => PyData.bool true) (fun δ => ∃ x, δ = [some d, some d, x]) (ds := rgI 0 ds.length) (δ := [some d, some d, none]) ⟨none, rfl⟩ (by
    rintro c hc δ ⟨x, rfl⟩
    obtain ⟨i, hi, rfl⟩ := rgI_mem hc
    have hg := List.getElem?_eq_getElem hi
    have hx := hix i _ hg
    refine ⟨[some d, some d, some (.int i)], [some d, some d, some (.int i)], rfl, cN_ev (aCons_ev (c2_ev rfl rfl hx) (aCons_ev (c2_ev rfl rfl hx) rfl)) (hrec _ (List.getElem_mem hi)), _, rfl⟩)
  exact (cN_ev (aCons_ev (lcV_ev (δ1 := [some d, some d, none]) (rgV_ev (aCons_ev l0 rfl) (rg1_len hl)) h1) rfl) (all_true _)).trans rfl
theorem andT_t {f g : CT} {δ δ1 : Env} (h : f δ = some (true, δ1)) : andT f g δ = g δ1 := by unfold andT; rw [h]; rfl
theorem andT_f {f g : CT} {δ δ1 : Env} (h : f δ = some (false, δ1)) : andT f g δ = some (false, δ1) := by unfold andT; rw [h]; rfl
theorem orT_t {f g : CT} {δ δ1 : Env} (h : f δ = some (true, δ1)) : orT f g δ = some (true, δ1) := by unfold orT; rw [h]; rfl
theorem orT_f {f g : CT} {δ δ1 : Env} (h : f δ = some (false, δ1)) : orT f g δ = g δ1 := by unfold orT; rw [h]; rfl
theorem same_self {n : Nat} {d : D} (h : Ok n d) : F__law_same (n + 1) [d, d] = some (.bool true) := by
  induction h with
  | non => kernel_rfl
  | bl b => cases b <;> kernel_rfl
  | int i =>
    show fnF (den__law_same _) 3 2 _ = _
    refine fnF_rt (δ := [some (.int i), some (.int i), none]) rfl ?_
    refine (seqS_nx (δ1 := [some (.int i), some (.int i), none]) (by kernel_rfl)).trans ?_
    refine (seqS_nx (δ1 := [some (.int i), some (.int i), none]) (by kernel_rfl)).trans ?_
    refine seqS_rt ((ifS_t (δ1 := [some (.int i), some (.int i), none]) (by kernel_rfl)).trans (seqS_rt (rtS_ev (c2_ev rfl rfl ?_))))
    rw [eqD_int]
    simp
  | @str n x hx =>
    show fnF (den__law_same _) 3 2 _ = _
    refine fnF_rt (δ := [some (.str x), some (.str x), none]) rfl ?_
    refine (seqS_nx (δ1 := [some (.str x), some (.str x), none]) (by kernel_rfl)).trans ?_
    refine (seqS_nx (δ1 := [some (.str x), some (.str x), none]) (by kernel_rfl)).trans ?_
    refine seqS_rt ((ifS_t (δ1 := [some (.str x), some (.str x), none]) (by kernel_rfl)).trans (seqS_rt (rtS_ev (c2_ev rfl rfl ?_))))
    rw [eqD_ev (n := 0) (.str hx) (.str hx) (by omega), eqv_self _ hx]
  | @tup n ds _ hl ih =>
    show fnF (den__law_same (F__law_same (n + 1))) 3 2 _ = _
    refine fnF_rt (δ := [some (.tuple ds), some (.tuple ds), none]) rfl ?_
    refine seqS_rt ((ifS_t (δ1 := [some (.tuple ds), some (.tuple ds), none]) (by kernel_rfl)).trans (seqS_rt (rtS_ev ?_)))
    exact same_seq (n := n) (ds := ds) _ hl (fun i e he => atI_nat he) rfl ih
  | @lst n ds _ hl ih =>
    show fnF (den__law_same (F__law_same (n + 1))) 3 2 _ = _
    refine fnF_rt (δ := [some (.list ds), some (.list ds), none]) rfl ?_
    refine seqS_rt ((ifS_t (δ1 := [some (.list ds), some (.list ds), none]) (by kernel_rfl)).trans (seqS_rt (rtS_ev ?_)))
    exact same_seq (n := n) (ds := ds) _ hl (fun i e he => atI_nat he) rfl ih
end Lb
namespace Lb
open PySem hiding Env
open Dn
variable [Wd]

theorem mulD_int {i j : Int} (h : i.natAbs < 2 ^ 64 ∨ j.natAbs < 2 ^ 64) : mulD (.int i) (.int j) = some (.int (i * j)) := by
  show (if mulW i j = true then _ else _) = _
  rw [if_pos (by
    unfold mulW mulC
    rw [Bool.or_eq_true, Bool.or_eq_true, decide_eq_true_eq, decide_eq_true_eq]
    exact .inl h)]
theorem modD_int {i j : Int} (h : j ≠ 0) : modD (.int i) (.int j) = some (.int (i.fmod j)) := by
  show (if modC i j = true then _ else _) = _
  rw [if_pos (by unfold modC; rw [decide_eq_true_eq]; exact h)]
theorem fdivD_int {i j : Int} (h : j ≠ 0) (h2 : j.natAbs < 2 ^ 9000) : fdivD (.int i) (.int j) = some (.int (i.fdiv j)) := by
  show (if divC i j = true then _ else _) = _
  rw [if_pos (by unfold divC; rw [Bool.and_eq_true, decide_eq_true_eq, decide_eq_true_eq]; exact ⟨h, h2⟩)]
theorem small_pow {n : Nat} (h : n < 2 ^ 64) : n < 2 ^ 9000 := Nat.lt_of_lt_of_le h (Nat.pow_le_pow_right (by decide) (by decide))
theorem ltD_int (i j : Int) : ltD (.int i) (.int j) = some (.bool (decide (i < j))) := rfl
theorem geD_int (i j : Int) : geD (.int i) (.int j) = some (.bool (decide (j ≤ i))) := rfl
theorem ltD_t {i j : Int} (h : i < j) : ltD (.int i) (.int j) = some (.bool true) := by rw [ltD_int, decide_eq_true h]
theorem ltD_f {i j : Int} (h : ¬ i < j) : ltD (.int i) (.int j) = some (.bool false) := by rw [ltD_int, decide_eq_false h]
theorem geD_t {i j : Int} (h : j ≤ i) : geD (.int i) (.int j) = some (.bool true) := by rw [geD_int, decide_eq_true h]
theorem geD_f {i j : Int} (h : ¬ j ≤ i) : geD (.int i) (.int j) = some (.bool false) := by rw [geD_int, decide_eq_false h]
end Lb
namespace Lb
open PySem hiding Env
open Dn
variable [Wd]

inductive Kd where | L | R | S
deriving DecidableEq
def Kd.d : Kd → D
  | .L => .str "left"
  | .R => .str "right"
  | .S => .str "straight"
def Kd.t : Kd → Int
  | .L => 1
  | .R => -1
  | .S => 0
abbrev Pc := Kd × Int
def encP (p : Pc) : D := .tuple [p.1.d, .int p.2]
abbrev Pose := Spot × Int
def encPo (p : Pose) : D := .tuple [encS p.1, .int p.2]
def encTr (t : List Pc) : D := .tuple (t.map encP)

theorem ok_Kd (n : Nat) (k : Kd) : Ok n k.d := by cases k <;> exact .str (by decide +kernel)
theorem ok_P (n : Nat) (p : Pc) : Ok (n + 1) (encP p) := Ok.t2 (ok_Kd n _) (.int _)
theorem ok_S (n : Nat) (s : Spot) : Ok (n + 1) (encS s) := .tup (fun d hd => by
  simp only [List.mem_cons, List.not_mem_nil, or_false] at hd
  rcases hd with rfl | rfl | rfl | rfl <;> exact .int _) (by show 4 ≤ _; decide)
theorem ok_Po (n : Nat) (p : Pose) : Ok (n + 2) (encPo p) := Ok.t2 (ok_S n _) (.int _)
theorem ok_Tr (n : Nat) (t : List Pc) (h : t.length ≤ 16777216) : Ok (n + 2) (encTr t) := .tup (fun d hd => by
  obtain ⟨p, _, rfl⟩ := List.mem_map.mp hd
  exact ok_P n p) (by rw [List.length_map]; exact h)
theorem imm_P (p : Pc) : immut (encP p) = true := by
  obtain ⟨k, n⟩ := p
  cases k <;> kernel_rfl
theorem imm_Po (p : Pose) : immut (encPo p) = true := by kernel_rfl
theorem imm_Ps (t : List Pc) : immutAll (t.map encP) = true := imm_all fun d hd => by
  obtain ⟨p, _, rfl⟩ := List.mem_map.mp hd
  exact imm_P p
theorem nob_Po (p : Pose) : nob (encPo p) = true := by kernel_rfl
theorem nob_all {ds : List D} (h : ∀ d ∈ ds, nob d = true) : nobAll ds = true := by
  induction ds with
  | nil => simp [nobAll]
  | cons d ds ih =>
    simp only [nobAll, Bool.and_eq_true]
    exact ⟨h d List.mem_cons_self, ih fun e he => h e (List.mem_cons_of_mem _ he)⟩
theorem encS_inj {s t : Spot} (h : encS s = encS t) : s = t := by
  obtain ⟨a, b, c, d⟩ := s
  obtain ⟨a', b', c', d'⟩ := t
  simp only [encS, PyData.tuple.injEq, List.cons.injEq, PyData.int.injEq, and_true] at h
  obtain ⟨rfl, rfl, rfl, rfl⟩ := h
  rfl
theorem encPo_inj {s t : Pose} (h : encPo s = encPo t) : s = t := by
  obtain ⟨a, b⟩ := s
  obtain ⟨a', b'⟩ := t
  simp only [encPo, PyData.tuple.injEq, List.cons.injEq, PyData.int.injEq, and_true] at h
  obtain ⟨h, rfl⟩ := h
  rw [encS_inj h]
theorem eqD_Po (p q : Pose) : eqD (encPo p) (encPo q) = some (.bool (decide (p = q))) := by
  rw [eqD_ev (ok_Po 0 p) (ok_Po 0 q) (by omega)]
  congr 2
  by_cases h : p = q
  · rw [decide_eq_true h]
    exact (eqv_iff _ _ (nob_Po p) (nob_Po q)).mpr (by rw [h])
  · rw [decide_eq_false h]
    cases e : PyData.eqv (encPo p) (encPo q) with
    | false => rfl
    | true => exact absurd (encPo_inj ((eqv_iff _ _ (nob_Po p) (nob_Po q)).mp e)) h

theorem turn_of_eq (p : Pc) : F_turn_of [encP p] = some (.int p.1.t) := by
  obtain ⟨k, n⟩ := p
  cases k <;> kernel_rfl
theorem along_eq (h n : Int) : F_along [.int h, .int n] = some (encS (turn h (n, 0, 0, 0))) :=
  fnF_rt (δ := [some (.int h), some (.int n)]) rfl (seqS_rt (rtS_ev (cN_ev (δ1 := [some (.int h), some (.int n)]) (ds := [encS (n, 0, 0, 0), .int h]) rfl (turned_spot_eq (n, 0, 0, 0) h))))
def step (p : Pc) (h : Int) : Spot := match p.1 with
  | .S => turn h (p.2, 0, 0, 0)
  | .L => ssub (turn (h + 2) (p.2, 0, 0, 0)) (turn (h + 3) (p.2, 0, 0, 0))
  | .R => ssub (turn (h + 1) (p.2, 0, 0, 0)) (turn (h + 2) (p.2, 0, 0, 0))
theorem step_of_eq (p : Pc) (h : Int) : F_step_of [encP p, .int h] = some (encS (step p h)) := by
  obtain ⟨k, n⟩ := p
  cases k with
  | S =>
    refine fnF_rt (δ := [some (encP (.S, n)), some (.int h), some (.str "straight"), some (.int n)]) rfl ?_
    refine (seqS_nx (δ1 := [some (encP (.S, n)), some (.int h), some (.str "straight"), some (.int n)]) (by kernel_rfl)).trans ?_
    exact seqS_rt ((ifS_t (δ1 := [some (encP (.S, n)), some (.int h), some (.str "straight"), some (.int n)]) (by kernel_rfl)).trans (seqS_rt (rtS_ev (cN_ev (ds := [.int h, .int n]) rfl (along_eq h n)))))
  | L =>
    refine fnF_rt (δ := [some (encP (.L, n)), some (.int h), some (.str "left"), some (.int n)]) rfl ?_
    refine (seqS_nx (δ1 := [some (encP (.L, n)), some (.int h), some (.str "left"), some (.int n)]) (by kernel_rfl)).trans ?_
    refine (seqS_nx (δ1 := [some (encP (.L, n)), some (.int h), some (.str "left"), some (.int n)]) (by kernel_rfl)).trans ?_
    exact seqS_rt ((ifS_t (δ1 := [some (encP (.L, n)), some (.int h), some (.str "left"), some (.int n)]) (by kernel_rfl)).trans (seqS_rt (rtS_ev (cN_ev (ds := [encS _, encS _])
      (aCons_ev (cN_ev (ds := [.int (h + 2), .int n]) rfl (along_eq (h + 2) n)) (aCons_ev (cN_ev (ds := [.int (h + 3), .int n]) rfl (along_eq (h + 3) n)) rfl)) (taken_off_eq _ _)))))
  | R =>
    refine fnF_rt (δ := [some (encP (.R, n)), some (.int h), some (.str "right"), some (.int n)]) rfl ?_
    refine (seqS_nx (δ1 := [some (encP (.R, n)), some (.int h), some (.str "right"), some (.int n)]) (by kernel_rfl)).trans ?_
    refine (seqS_nx (δ1 := [some (encP (.R, n)), some (.int h), some (.str "right"), some (.int n)]) (by kernel_rfl)).trans ?_
    refine (seqS_nx (δ1 := [some (encP (.R, n)), some (.int h), some (.str "right"), some (.int n)]) (by kernel_rfl)).trans ?_
    exact seqS_rt (rtS_ev (cN_ev (ds := [encS _, encS _])
      (aCons_ev (cN_ev (ds := [.int (h + 1), .int n]) rfl (along_eq (h + 1) n)) (aCons_ev (cN_ev (ds := [.int (h + 2), .int n]) rfl (along_eq (h + 2) n)) rfl)) (taken_off_eq _ _)))
def behind (q : Pose) (p : Pc) : Pose := (sadd q.1 (step p q.2), (q.2 + p.1.t) % 8)
theorem pose_behind_eq (q : Pose) (p : Pc) : F_pose_behind [encPo q, encP p] = some (encPo (behind q p)) := by
  obtain ⟨s, h⟩ := q
  refine fnF_rt (δ := [some (encPo (s, h)), some (encP p), some (encS s), some (.int h)]) rfl ?_
  refine (seqS_nx (δ1 := [some (encPo (s, h)), some (encP p), some (encS s), some (.int h)]) rfl).trans ?_
  refine seqS_rt (rtS_ev (tupV_ev (ds := [encS _, .int _]) (aCons_ev (cN_ev (ds := [encS s, encS (step p h)]) (aCons_ev rfl (aCons_ev (cN_ev (ds := [encP p, .int h]) rfl (step_of_eq p h)) rfl)) (added_eq _ _)) (aCons_ev (c2_ev (d := .int (h + p.1.t)) (e := .int 8) (c2_ev (d := .int h) (e := .int p.1.t) rfl (cN_ev (ds := [encP p]) rfl (turn_of_eq p)) rfl) rfl ?_) rfl))))
  rw [modD_int (by decide), fmod8]
  rfl
/-- the poses along a track, the first one too -/
def along' (q : Pose) : List Pc → List Pose
  | [] => [q]
  | p :: r => q :: along' (behind q p) r
def go (q : Pose) (t : List Pc) : Pose := t.foldl behind q
theorem along_len (q : Pose) : ∀ t : List Pc, (along' q t).length = t.length + 1 := by
  intro t
  induction t generalizing q with
  | nil => rfl
  | cons p r ih => show (along' _ r).length + 1 = _; rw [ih]; rfl
theorem along_last (q : Pose) : ∀ t : List Pc, (along' q t)[t.length]? = some (go q t) := by
  intro t
  induction t generalizing q with
  | nil => rfl
  | cons p r ih => exact ih (behind q p)
theorem apS_ev {i : Nat} {f : CE} {δ δ1 δ2 : Env} {ds0 ds : List D} {d : D} (h0 : δ[i]? = some (some (.list ds0))) (h1 : f δ = some (d, δ1)) (h2 : δ1[i]? = some (some (.list ds))) (h3 : ds.length < 16777216) (h4 : δ1.set i (some (.list (ds ++ [d]))) = δ2) : apS i f δ = some (.nx δ2) := by
  unfold apS
  rw [h0]
  dsimp only
  rw [h1]
  dsimp only [Option.bind_some]
  rw [h2]
  dsimp only
  have h3' : ds.length < sizeLine := h3
  rw [if_pos h3', h4]
theorem atI_neg1 {ds : List D} {d : D} (h : ds[ds.length - 1]? = some d) : L2.atI ds (-1) = some d := by
  have hl : ds.length - 1 < ds.length := (List.getElem?_eq_some_iff.mp h).1
  unfold L2.atI L2.ixN
  rw [if_neg (by decide), if_pos (by omega)]
  show ds[((-1 : Int) + ds.length).toNat]? = some d
  rw [show ((-1 : Int) + (ds.length : Int)).toNat = ds.length - 1 by omega, h]
theorem poses_loop (tr p0 : Option D) : ∀ (t : List Pc) (pre : List D) (q : Pose) (x : Option D), pre.length + t.length < 16777216 →
    ∃ y, forL (stS 3) b1_poses_along (t.map encP) [p0, tr, some (.list (pre ++ [encPo q])), x] = some (.nx [p0, tr, some (.list (pre ++ (along' q t).map encPo)), y])
  | [], pre, q, x, _ => ⟨x, rfl⟩
  | p :: t, pre, q, x, hl => by
    rw [List.length_cons] at hl
    obtain ⟨y, h⟩ := poses_loop tr p0 t (pre ++ [encPo q]) (behind q p) (some (encP p)) (by rw [List.length_append, List.length_singleton]; omega)
    refine ⟨y, ?_⟩
    refine (forL_nx (δ1 := [p0, tr, some (.list (pre ++ [encPo q])), some (encP p)]) (δ2 := [p0, tr, some (.list ((pre ++ [encPo q]) ++ [encPo (behind q p)])), some (encP p)]) rfl ?_).trans (h.trans ?_)
    · refine (seqS_nx (apS_ev rfl (cN_ev (ds := [encPo q, encP p]) (aCons_ev (c2_ev (d := .list (pre ++ [encPo q])) (e := .int (-1)) rfl rfl (atI_neg1 ?_)) rfl) (pose_behind_eq q p)) rfl ?_ rfl)).trans rfl
      · rw [List.length_append, List.length_singleton, Nat.add_sub_cancel, List.getElem?_append_right (Nat.le_refl _), Nat.sub_self]
        rfl
      · rw [List.length_append, List.length_singleton]
        omega
    · rw [List.append_assoc]
      rfl
theorem poses_along_eq (q : Pose) (t : List Pc) (h : t.length < 16777216) : F_poses_along [encPo q, encTr t] = some (.tuple ((along' q t).map encPo)) := by
  obtain ⟨y, e⟩ := poses_loop (some (encTr t)) (some (encPo q)) t [] q none (by simpa using h)
  refine fnF_rt (δ := [some (encPo q), some (encTr t), some (.list ((along' q t).map encPo)), y]) rfl ?_
  refine (seqS_nx (δ1 := [some (encPo q), some (encTr t), some (.list [encPo q]), none]) rfl).trans ?_
  refine (seqS_nx ((forS_ev (ds := t.map encP) (δ1 := [some (encPo q), some (encTr t), some (.list [encPo q]), none]) (seqI_ev rfl rfl)).trans e)).trans ?_
  refine seqS_rt (rtS_ev (cN_ev (ds := [.list ((along' q t).map encPo)]) rfl ?_))
  show (if immutAll ((along' q t).map encPo) = true then _ else _) = _
  rw [if_pos (imm_all fun d hd => by
    obtain ⟨p, _, rfl⟩ := List.mem_map.mp hd
    exact imm_Po p)]
theorem pose_after_eq (q : Pose) (t : List Pc) (h : t.length < 16777216) : F_pose_after [encPo q, encTr t] = some (encPo (go q t)) := by
  refine fnF_rt (δ := [some (encPo q), some (encTr t)]) rfl ?_
  refine seqS_rt (rtS_ev (c2_ev (d := .tuple ((along' q t).map encPo)) (e := .int (-1)) (cN_ev (ds := [encPo q, encTr t]) rfl (poses_along_eq q t h)) rfl (atI_neg1 ?_)))
  rw [List.length_map, along_len, Nat.add_sub_cancel, List.getElem?_map, along_last]
  rfl
def o0 : Pose := ((0, 0, 0, 0), 0)
theorem is_closed_eq (t : List Pc) (h : t.length < 16777216) : F_is_closed [encTr t] = some (.bool (decide (t ≠ []) && decide (go o0 t = o0))) := by
  refine fnF_rt (δ := [some (encTr t)]) rfl ?_
  refine seqS_rt (rtS_ev ?_)
  have h1 : c2 neD (rd 0) (tupV aNil) [some (encTr t)] = some (.bool (decide (t ≠ [])), [some (encTr t)]) := by
    refine c2_ev (d := encTr t) (e := .tuple []) rfl rfl ?_
    rw [neD_ev (ok_Tr 0 t (by omega)) (Ok.tup (by intro d hd; cases hd) (by decide)) (by omega)]
    cases t with
    | nil => kernel_rfl
    | cons p r => kernel_rfl
  cases t with
  | nil => exact andV_f (δ := [some (encTr [])]) h1 rfl
  | cons p r =>
    refine (andV_t (δ := [some (encTr (p :: r))]) h1 rfl).trans ?_
    refine c2_ev (d := encPo _) (e := encPo o0) (cN_ev (ds := [encPo o0, encTr (p :: r)]) rfl (pose_after_eq o0 _ h)) rfl ?_
    rw [eqD_Po]
    congr 2
end Lb
namespace Lb
open PySem hiding Env
open Dn
variable [Wd]

def sneg (s : Spot) : Spot := (-s.1, -s.2.1, -s.2.2.1, -s.2.2.2)
def s0 : Spot := (0, 0, 0, 0)
theorem spot_ext {s t : Spot} (h1 : s.1 = t.1) (h2 : s.2.1 = t.2.1) (h3 : s.2.2.1 = t.2.2.1) (h4 : s.2.2.2 = t.2.2.2) : s = t := by
  obtain ⟨a, b, c, d⟩ := s
  obtain ⟨a', b', c', d'⟩ := t
  simp only at h1 h2 h3 h4
  subst h1 h2 h3 h4
  rfl
theorem sadd_assoc (a b c : Spot) : sadd (sadd a b) c = sadd a (sadd b c) := spot_ext (Int.add_assoc _ _ _) (Int.add_assoc _ _ _) (Int.add_assoc _ _ _) (Int.add_assoc _ _ _)
theorem sadd_zero (a : Spot) : sadd a s0 = a := spot_ext (Int.add_zero _) (Int.add_zero _) (Int.add_zero _) (Int.add_zero _)
theorem zero_sadd (a : Spot) : sadd s0 a = a := spot_ext (Int.zero_add _) (Int.zero_add _) (Int.zero_add _) (Int.zero_add _)
theorem ssub_eq (a b : Spot) : ssub a b = sadd a (sneg b) := spot_ext (Int.sub_eq_add_neg) (Int.sub_eq_add_neg) (Int.sub_eq_add_neg) (Int.sub_eq_add_neg)
theorem rotN_rot : ∀ (n : Nat) (s : Spot), rotN n (rot s) = rot (rotN n s)
  | 0, _ => rfl
  | n + 1, s => rotN_rot n (rot s)
theorem rotN_add : ∀ (m n : Nat) (s : Spot), rotN (m + n) s = rotN m (rotN n s)
  | m, 0, s => rfl
  | m, n + 1, s => rotN_add m n (rot s)
theorem rotN_8 (s : Spot) : rotN 8 s = s := by
  refine spot_ext ?_ ?_ ?_ ?_ <;> exact Int.neg_neg _
theorem rotN_mul8 : ∀ (k : Nat) (s : Spot), rotN (8 * k) s = s
  | 0, _ => rfl
  | k + 1, s => by rw [Nat.mul_succ, rotN_add, rotN_8, rotN_mul8 k s]
theorem rotN_mod (n : Nat) (s : Spot) : rotN n s = rotN (n % 8) s := by
  have e : n = n % 8 + 8 * (n / 8) := by omega
  rw [e, rotN_add, rotN_mul8]
  congr 1
  omega
theorem turn_turn (k j : Int) (s : Spot) : turn k (turn j s) = turn (k + j) s := by
  unfold turn
  rw [← rotN_add, rotN_mod]
  congr 1
  omega
theorem turn_congr {k j : Int} (h : k % 8 = j % 8) (s : Spot) : turn k s = turn j s := by
  unfold turn
  rw [h]
theorem turn_0 (s : Spot) : turn 0 s = s := rfl
theorem rot_add (s t : Spot) : rot (sadd s t) = sadd (rot s) (rot t) := spot_ext (Int.neg_add) rfl rfl rfl
theorem rotN_sadd : ∀ (n : Nat) (s t : Spot), rotN n (sadd s t) = sadd (rotN n s) (rotN n t)
  | 0, _, _ => rfl
  | n + 1, s, t => by
    show rotN n (rot (sadd s t)) = _
    rw [rot_add, rotN_sadd n]
    rfl
theorem turn_sadd (k : Int) (s t : Spot) : turn k (sadd s t) = sadd (turn k s) (turn k t) := rotN_sadd _ _ _
theorem rotN_zero : ∀ n : Nat, rotN n s0 = s0
  | 0 => rfl
  | n + 1 => rotN_zero n
theorem turn_s0 (k : Int) : turn k s0 = s0 := rotN_zero _
theorem turn_4 (s : Spot) : turn 4 s = sneg s := rfl
theorem turn_neg (k : Int) (s : Spot) : turn k (sneg s) = sneg (turn k s) := by rw [← turn_4, turn_turn, Int.add_comm, ← turn_turn, turn_4]
theorem turn_ssub (k : Int) (s t : Spot) : turn k (ssub s t) = ssub (turn k s) (turn k t) := by rw [ssub_eq, ssub_eq, turn_sadd, turn_neg]
def d1 (p : Pc) : Spot := step p 0
theorem step_turn (p : Pc) (h : Int) : step p h = turn h (d1 p) := by
  obtain ⟨k, n⟩ := p
  cases k with
  | S =>
    show turn h (n, 0, 0, 0) = turn h (turn 0 (n, 0, 0, 0))
    rw [turn_0]
  | L =>
    show ssub (turn (h + 2) _) (turn (h + 3) _) = turn h (ssub (turn (0 + 2) _) (turn (0 + 3) _))
    rw [turn_ssub, turn_turn, turn_turn, Int.zero_add, Int.zero_add]
  | R =>
    show ssub (turn (h + 1) _) (turn (h + 2) _) = turn h (ssub (turn (0 + 1) _) (turn (0 + 2) _))
    rw [turn_ssub, turn_turn, turn_turn, Int.zero_add, Int.zero_add]
def tsum : List Pc → Int
  | [] => 0
  | p :: r => p.1.t + tsum r
def disp : List Pc → Spot
  | [] => s0
  | p :: r => sadd (d1 p) (turn p.1.t (disp r))
theorem go_eq : ∀ (t : List Pc) (s : Spot) (h : Int), 0 ≤ h → h < 8 → go (s, h) t = (sadd s (turn h (disp t)), (h + tsum t) % 8)
  | [], s, h, h0, h1 => by
    show (s, h) = (sadd s (turn h s0), (h + 0) % 8)
    rw [turn_s0, sadd_zero, Int.add_zero, Int.emod_eq_of_lt h0 h1]
  | p :: r, s, h, h0, h1 => by
    show go (behind (s, h) p) r = _
    unfold behind
    rw [go_eq r _ _ (Int.emod_nonneg _ (by decide)) (Int.emod_lt_of_pos _ (by decide))]
    show (sadd (sadd s (step p h)) (turn ((h + p.1.t) % 8) (disp r)), ((h + p.1.t) % 8 + tsum r) % 8) = (sadd s (turn h (sadd (d1 p) (turn p.1.t (disp r)))), (h + (p.1.t + tsum r)) % 8)
    rw [sadd_assoc, step_turn, turn_sadd, turn_turn, turn_congr (show ((h + p.1.t) % 8) % 8 = (h + p.1.t) % 8 by omega)]
    congr 1
    omega
theorem go_o0 (t : List Pc) : go o0 t = (disp t, tsum t % 8) := by
  show go (s0, 0) t = _
  rw [go_eq t s0 0 (by decide) (by decide), zero_sadd, turn_0, Int.zero_add]
theorem go_closed (t : List Pc) : go o0 t = o0 ↔ disp t = s0 ∧ tsum t % 8 = 0 := by
  rw [go_o0]
  show (disp t, tsum t % 8) = (s0, 0) ↔ _
  rw [Prod.mk.injEq]
def rep (n : Nat) (t : List Pc) : List Pc := (List.replicate n t).flatten
def fro (t : List Pc) : List Pc := t ++ t.reverse
end Lb
namespace Lb
open PySem hiding Env
open Dn
variable [Wd]

theorem ioV_ev {i : Nat} {F : List D → List D → Option (D × List D)} {fa : CA} {δ δ1 δ2 : Env} {as dsa ds0 ds1 : List D} {r : D} (h0 : δ[i]? = some (some (.list dsa))) (h1 : fa δ = some (as, δ1)) (h2 : δ1[i]? = some (some (.list ds0))) (h3 : F ds0 as = some (r, ds1)) (h4 : δ1.set i (some (.list ds1)) = δ2) : ioV i F fa δ = some (r, δ2) := by
  unfold ioV
  rw [h0]
  dsimp only
  rw [h1]
  dsimp only [Option.bind_some]
  rw [h2]
  dsimp only
  rw [h3, ← h4]
  rfl
end Lb
namespace Lb
open PySem hiding Env
open Dn
variable [Wd]

theorem lcL_any {β : Type} {t : CG} {own : List Nat} {f : CE} (enc : β → D) (P : β → Prop) (I : Env → Prop) : ∀ {ds : List D} {δ : Env}, I δ → (∀ d ∈ ds, ∀ δ, I δ → ∃ δ1 δ2 b, t d (wipeD δ own) = some δ1 ∧ f δ1 = some (enc b, δ2) ∧ P b ∧ I δ2) →
    ∃ (l : List β) (δ' : Env), lcL t own yesT f ds δ = some (l.map enc, δ') ∧ I δ' ∧ (∀ b ∈ l, P b) ∧ l.length = ds.length
  | [], δ, h, _ => ⟨[], δ, rfl, h, by simp, rfl⟩
  | d :: ds, δ, h, hs => by
    obtain ⟨δ1, δ2, b, e1, e2, hb, h2⟩ := hs d List.mem_cons_self δ h
    obtain ⟨l, δ', e3, h3, hl, hn⟩ := lcL_any enc P I (ds := ds) h2 fun d hd => hs d (List.mem_cons_of_mem _ hd)
    refine ⟨b :: l, δ', ?_, h3, fun c hc => ?_, by rw [List.length_cons, List.length_cons, hn]⟩
    · show ((t d (wipeD δ own)).bind _) = _
      rw [e1]
      show ((f δ1).bind _) = _
      rw [e2]
      show ((lcL t own yesT f ds δ2).bind _) = _
      rw [e3]
      rfl
    · rcases List.mem_cons.mp hc with e | e
      · rw [e]; exact hb
      · exact hl c e
/-- a flow that goes on -/
def On (I : Env → Prop) : Fl → Prop
  | .nx δ => I δ
  | .ct δ => I δ
  | _ => False
theorem forL_inv {t : CG} {g : CS} (I : Env → Prop) : ∀ {ds : List D} {δ : Env}, I δ → (∀ d ∈ ds, ∀ δ, I δ → ∃ δ1 fl, t d δ = some δ1 ∧ g δ1 = some fl ∧ On I fl) → ∃ δ', forL t g ds δ = some (.nx δ') ∧ I δ'
  | [], δ, h, _ => ⟨δ, rfl, h⟩
  | d :: ds, δ, h, hs => by
    obtain ⟨δ1, fl, e1, e2, h2⟩ := hs d List.mem_cons_self δ h
    have rest : ∀ δ2, I δ2 → ∃ δ', forL t g ds δ2 = some (.nx δ') ∧ I δ' := fun δ2 h => forL_inv I h fun d hd => hs d (List.mem_cons_of_mem _ hd)
    cases fl with
    | nx δ2 =>
      obtain ⟨δ', e, h'⟩ := rest δ2 h2
      exact ⟨δ', (forL_nx e1 e2).trans e, h'⟩
    | ct δ2 =>
      obtain ⟨δ', e, h'⟩ := rest δ2 h2
      exact ⟨δ', (forL_ct e1 e2).trans e, h'⟩
    | rt _ _ => exact h2.elim
    | bk _ => exact h2.elim
/-- an assignment whose value changes nothing -/
theorem asgP {t : CG} {f : CE} {δ δ2 : Env} {d : D} (e : f δ = some (d, δ)) (h : t d δ = some δ2) : asgS t f δ = some (.nx δ2) := asgS_ev e h
theorem cNP {φ : List D → Option D} {f : CA} {δ : Env} {ds : List D} {d : D} (e : f δ = some (ds, δ)) (h : φ ds = some d) : cN φ f δ = some (d, δ) := cN_ev e h
theorem revTr (t : List Pc) : revD (encTr t) = some (encTr t.reverse) := by
  show (if immutAll (t.map encP) = true then some (PyData.tuple (t.map encP).reverse) else none) = _
  rw [if_pos (imm_Ps t), ← List.map_reverse]
  rfl
theorem asInts_map {α : Type} (φ : α → Int) (l : List α) : asInts (l.map fun a => PyData.int (φ a)) = some (l.map φ) := by
  induction l with
  | nil => rfl
  | cons a l ih =>
    show ((asInts (l.map fun a => PyData.int (φ a))).map (φ a :: ·)) = _
    rw [ih]
    rfl
end Lb
namespace Lb
open PySem hiding Env step
open Dn
variable [Wd]

def encX (cells : List Int) (x y : Int) : List D := [.list (cells.map .int), .int x, .int y]
def BoxOk (t : List D) : Prop := ∃ cells x y, t = encX cells x y
theorem stB_1 {i : Nat} {f : CE} {δ δ1 δ2 : Env} {n : Int} {cs x y : D} (h1 : f δ = some (.int n, δ1)) (h2 : δ1[i]? = some (some (.list [cs, x, y]))) (h3 : δ1.set i (some (.list [cs, .int n, y])) = δ2) : stB i 1 f δ = some (.nx δ2) := by
  unfold stB
  rw [h1]
  dsimp only [Option.bind_some]
  rw [h2]
  dsimp only
  rw [if_pos rfl, h3]
theorem stB_2 {i : Nat} {f : CE} {δ δ1 δ2 : Env} {n : Int} {cs x y : D} (h1 : f δ = some (.int n, δ1)) (h2 : δ1[i]? = some (some (.list [cs, x, y]))) (h3 : δ1.set i (some (.list [cs, x, .int n])) = δ2) : stB i 2 f δ = some (.nx δ2) := by
  unfold stB
  rw [h1]
  dsimp only [Option.bind_some]
  rw [h2]
  dsimp only
  rw [if_neg (by decide), if_pos rfl, h3]
theorem box_ev (ns : List Int) : ∃ t, F__law_box [.list (ns.map .int)] = some (.list t) ∧ BoxOk t := by
  have hi : ∀ xs : List Int, immutAll (xs.map PyData.int) = true := fun xs => imm_all fun d hd => by
    obtain ⟨i, _, rfl⟩ := List.mem_map.mp hd
    rfl
  have ha : ∀ xs : List Int, asInts (xs.map PyData.int) = some xs := fun xs => by
    have := asInts_map (fun i : Int => i) xs
    simpa using this
  refine ⟨encX (ns.take 63) 0 (4711 + ns.length), ?_, _, _, _, rfl⟩
  have e1 : cN listD (aCons (slV (rd 0) noPt (ptOf (cst (.int 63)))) aNil) [some (.list (ns.map .int))] = some (.list ((ns.take 63).map .int), [some (.list (ns.map .int))]) := by
    refine cN_ev (ds := [.list ((ns.take 63).map .int)]) (aCons_ev (slV_ev (d := .list (ns.map .int)) (l := none) (u := some ((63 : Nat) : Int)) rfl rfl rfl ((slD_list (hi ns)).trans ?_)) rfl) (listD_list (hi _))
    rw [cut_take, List.map_take]
  have e2 : c2 addD (cst (.int 4711)) (cN lenD (aCons (rd 0) aNil)) [some (.list (ns.map .int))] = some (.int (4711 + ns.length), [some (.list (ns.map .int))]) := by
    refine c2_ev (d := .int 4711) (e := .int ns.length) rfl (cN_ev (ds := [.list (ns.map .int)]) rfl ?_) rfl
    show some (PyData.int ((ns.map PyData.int).length : Nat)) = _
    rw [List.length_map]
  have e3 : boxV (cN listD (aCons (slV (rd 0) noPt (ptOf (cst (.int 63)))) aNil)) (cst (.int 0)) (c2 addD (cst (.int 4711)) (cN lenD (aCons (rd 0) aNil))) [some (.list (ns.map .int))] = some (.list (encX (ns.take 63) 0 (4711 + ns.length)), [some (.list (ns.map .int))]) := by
    unfold boxV
    rw [e1]
    dsimp only [Option.bind_some, cst]
    rw [e2]
    dsimp only [Option.bind_some]
    rw [ha]
    rfl
  show fnR den__law_box 1 1 _ = _
  unfold fnR
  rw [if_pos (by rfl)]
  show ((seqS (rtS _) skip [some (.list (ns.map .int))]).bind _) = _
  rw [seqS_rt (rtS_ev e3)]
  rfl
theorem gtD_int (i j : Int) : gtD (.int i) (.int j) = some (.bool (decide (j < i))) := rfl
theorem load_ev {t : List D} (ht : BoxOk t) : ∃ r t', F__law_load t [] = some (.int r, t') ∧ BoxOk t' := by
  obtain ⟨cells, x, y, rfl⟩ := ht
  have md : ∀ {i j : Int}, j ≠ 0 → modD (.int i) (.int j) = some (.int (i.fmod j)) := fun h => modD_int h
  -- the last statements
  have fin : ∀ (cs : List Int) (x y : Int) (a b c d e : Option D), ∃ r δ y', (seqS (asgS (stS 4) (c2 modD (cN intD (aCons (c2 addD (c2 mulD (c2 ixD (rd 0) (cst (.int 2))) (cst (.int 48271))) (cst (.int 17))) aNil)) (cst (.int 2147483629)))) (seqS (asgS (stS 5) (c2 modD (cN intD (aCons (c2 addD (c2 mulD (rd 4) (cst (.int 69621))) (cst (.int 5))) aNil)) (cst (.int 2147483587)))) (seqS (stB 0 2 (c2 modD (cN intD (aCons (c2 addD (c2 mulD (rd 5) (cst (.int 40692))) (cst (.int 3))) aNil)) (cst (.int 2147483563)))) (seqS (rtS (c2 addD (c2 addD (c2 mulD (rd 4) (cst (.int 4611686014132420609))) (c2 mulD (rd 5) (cst (.int 2147483647)))) (c2 ixD (rd 0) (cst (.int 2))))) skip)))) [some (.list (encX cs x y)), a, b, c, d, e] = some (.rt (.int r) δ) ∧ io0 δ = some (encX cs x y') := fun cs x y a b c d e => by
    obtain ⟨f1, hf1⟩ : ∃ f1, f1 = (y * 48271 + 17).fmod 2147483629 := ⟨_, rfl⟩
    obtain ⟨f2, hf2⟩ : ∃ f2, f2 = (f1 * 69621 + 5).fmod 2147483587 := ⟨_, rfl⟩
    obtain ⟨f3, hf3⟩ : ∃ f3, f3 = (f2 * 40692 + 3).fmod 2147483563 := ⟨_, rfl⟩
    refine ⟨f1 * 4611686014132420609 + f2 * 2147483647 + f3, [some (.list (encX cs x f3)), a, b, c, some (.int f1), some (.int f2)], f3, ?_, rfl⟩
    refine (seqS_nx (δ1 := [some (.list (encX cs x y)), a, b, c, some (.int f1), e]) (asgP (d := .int f1) (c2_ev (d := .int (y * 48271 + 17)) (cNP (ds := [.int (y * 48271 + 17)]) (aCons_ev (c2_ev (d := .int (y * 48271)) (c2_ev (d := .int y) (c2_ev rfl rfl rfl) rfl (mulD_int (.inr (by decide)))) rfl rfl) rfl) rfl) rfl (by rw [hf1]; exact md (by decide))) rfl)).trans ?_
    refine (seqS_nx (δ1 := [some (.list (encX cs x y)), a, b, c, some (.int f1), some (.int f2)]) (asgP (d := .int f2) (c2_ev (d := .int (f1 * 69621 + 5)) (cNP (ds := [.int (f1 * 69621 + 5)]) (aCons_ev (c2_ev (d := .int (f1 * 69621)) (c2_ev (d := .int f1) rfl rfl (mulD_int (.inr (by decide)))) rfl rfl) rfl) rfl) rfl (by rw [hf2]; exact md (by decide))) rfl)).trans ?_
    refine (seqS_nx (δ1 := [some (.list (encX cs x f3)), a, b, c, some (.int f1), some (.int f2)]) (stB_2 (n := f3) (δ1 := [some (.list (encX cs x y)), a, b, c, some (.int f1), some (.int f2)]) (c2_ev (d := .int (f2 * 40692 + 3)) (cNP (ds := [.int (f2 * 40692 + 3)]) (aCons_ev (c2_ev (d := .int (f2 * 40692)) (c2_ev (d := .int f2) rfl rfl (mulD_int (.inr (by decide)))) rfl rfl) rfl) rfl) rfl (by rw [hf3]; exact md (by decide))) rfl rfl)).trans ?_
    exact seqS_rt (rtS_ev (c2_ev (d := .int (f1 * 4611686014132420609 + f2 * 2147483647)) (e := .int f3) (c2_ev (d := .int (f1 * 4611686014132420609)) (c2_ev (d := .int f1) rfl rfl (mulD_int (.inr (by decide)))) (c2_ev (d := .int f2) rfl rfl (mulD_int (.inr (by decide)))) rfl) (c2_ev rfl rfl rfl) rfl))
  have s1 : cellS 0 1 [some (.list (encX cells x y)), none, none, none, none, none] = some (.nx [some (.list (encX cells x y)), some .none, none, none, none, none]) := rfl
  have hl : ∀ b, decide ((0 : Int) < cells.length) = b → (tstB (c2 gtD (hasC 1 (lenCV 0)) (cst (.int 0)))) [some (.list (encX cells x y)), some .none, none, none, none, none] = some (b, [some (.list (encX cells x y)), some .none, none, none, none, none]) := fun b e => by
    refine tstB_ev (c2_ev (d := .int cells.length) (e := .int 0) ?_ rfl (by rw [gtD_int, e]))
    show some (PyData.int ((cells.map PyData.int).length : Nat), _) = _
    rw [List.length_map]
  cases cells with
  | nil =>
    obtain ⟨r, δ, y', e, hi⟩ := fin [] x y (some .none) none none none none
    exact ⟨r, _, fnI_rt rfl ((seqS_nx s1).trans ((seqS_nx ((ifS_f (hl false (by simp))).trans rfl)).trans e)) hi, _, _, _, rfl⟩
  | cons c cs =>
    have hp : decide ((0 : Int) < ((c :: cs).length : Nat)) = true := by
      rw [decide_eq_true_eq, List.length_cons]
      omega
    obtain ⟨z, hz⟩ : ∃ z, (asgS (stS 3) (ifV (tstB (c2 geD (rd 2) (cst (.int 0)))) (c2 mulD (cst (.int 2)) (rd 2)) (c2 subD (c2 mulD (c1 negD (cst (.int 2))) (rd 2)) (cst (.int 1))))) [some (.list (encX cs x y)), some .none, some (.int c), none, none, none] = some (.nx [some (.list (encX cs x y)), some .none, some (.int c), some (.int z), none, none]) := by
      by_cases h : 0 ≤ c
      · exact ⟨2 * c, asgS_ev ((ifV_t (tstB_ev (c2_ev rfl rfl (geD_t h)))).trans (c2_ev rfl rfl (mulD_int (.inl (by decide))))) rfl⟩
      · exact ⟨-2 * c - 1, asgS_ev ((ifV_f (tstB_ev (c2_ev rfl rfl (geD_f h)))).trans (c2_ev (d := .int (-2 * c)) (c2_ev (d := .int (-2)) rfl rfl (mulD_int (.inl (by decide)))) rfl rfl)) rfl⟩
    have s2 : (asgS (stS 2) (cN intD (aCons (hasC 1 (popCV 0)) aNil))) [some (.list (encX (c :: cs) x y)), some .none, none, none, none, none] = some (.nx [some (.list (encX cs x y)), some .none, some (.int c), none, none, none]) := rfl
    by_cases hb : (1000000000000000000 : Int) ≤ z
    · refine ⟨z, encX cs x y, fnI_rt (δ := [some (.list (encX cs x y)), some .none, some (.int c), some (.int z), none, none]) rfl ?_ rfl, _, _, _, rfl⟩
      exact (seqS_nx s1).trans (seqS_rt ((ifS_t (hl true hp)).trans ((seqS_nx s2).trans ((seqS_nx hz).trans (seqS_rt ((ifS_t (tstB_ev (c2_ev rfl rfl (geD_t hb)))).trans rfl))))))
    · obtain ⟨v, hv⟩ : ∃ v, v = (y * 69621 + z * 48271 + 11).fmod 2147483647 := ⟨_, rfl⟩
      obtain ⟨r, δ, y', e, hi⟩ := fin cs x v (some .none) (some (.int c)) (some (.int z)) none none
      refine ⟨r, _, fnI_rt rfl ((seqS_nx s1).trans ((seqS_nx ((ifS_t (hl true hp)).trans ((seqS_nx s2).trans ((seqS_nx hz).trans ((seqS_nx ((ifS_f (tstB_ev (c2_ev rfl rfl (geD_f hb)))).trans rfl)).trans ((seqS_nx (δ1 := [some (.list (encX cs x v)), some .none, some (.int c), some (.int z), none, none]) (stB_2 (n := v) (δ1 := [some (.list (encX cs x y)), some .none, some (.int c), some (.int z), none, none]) ?_ rfl rfl)).trans rfl)))))).trans e)) hi, _, _, _, rfl⟩
      exact c2_ev (d := .int (y * 69621 + z * 48271 + 11)) (cNP (ds := [.int (y * 69621 + z * 48271 + 11)]) (aCons_ev (c2_ev (d := .int (y * 69621 + z * 48271)) (c2_ev (d := .int (y * 69621)) (c2_ev (d := .int y) (c2_ev rfl rfl rfl) rfl (mulD_int (.inr (by decide)))) (c2_ev (d := .int z) rfl rfl (mulD_int (.inr (by decide)))) rfl) rfl rfl) rfl) rfl) rfl (by rw [hv]; exact md (by decide))
theorem draw_ev {t : List D} (ht : BoxOk t) {many : Int} (h1 : 1 ≤ many) (h2 : many < 2 ^ 64) : ∃ d t', F__law_draw t [.int many] = some (.int d, t') ∧ 0 ≤ d ∧ d < many ∧ BoxOk t' := by
  -- the first statement
  obtain ⟨cs, x, y, hA⟩ : ∃ cs x y, (ifS (tstB (c2 ltD (c2 ixD (rd 0) (cst (.int 1))) (rd 1))) (seqS (stB 0 1 (ioV 0 F__law_load aNil)) skip) skip) [some (.list t), some (.int many), none] = some (.nx [some (.list (encX cs x y)), some (.int many), none]) := by
    obtain ⟨cells, x, y, rfl⟩ := ht
    by_cases hx : x < many
    · obtain ⟨r, t', e, cs, x', y', rfl⟩ := load_ev ⟨cells, x, y, rfl⟩
      exact ⟨cs, r, y', (ifS_t (tstB_ev (c2_ev (d := .int x) (e := .int many) (c2_ev rfl rfl rfl) rfl (ltD_t hx)))).trans ((seqS_nx (stB_1 (n := r) (ioV_ev (δ2 := [some (.list (encX cs x' y')), some (.int many), none]) rfl rfl rfl e rfl) rfl rfl)).trans rfl)⟩
    · exact ⟨cells, x, y, (ifS_f (tstB_ev (c2_ev (d := .int x) (e := .int many) (c2_ev rfl rfl rfl) rfl (ltD_f hx)))).trans rfl⟩
  refine ⟨x.fmod many, encX cs (x.fdiv many) y, fnI_rt (δ := [some (.list (encX cs (x.fdiv many) y)), some (.int many), some (.int (x.fmod many))]) rfl ?_ rfl, ?_, ?_, _, _, _, rfl⟩
  · refine (seqS_nx hA).trans ((seqS_nx (δ1 := [some (.list (encX cs x y)), some (.int many), some (.int (x.fmod many))]) (asgP (d := .int (x.fmod many)) (c2_ev (d := .int x) (e := .int many) (cNP (ds := [.int x]) (aCons_ev (c2_ev rfl rfl rfl) rfl) rfl) rfl (modD_int (by omega))) rfl)).trans ?_)
    exact (seqS_nx (stB_1 (n := x.fdiv many) (δ1 := [some (.list (encX cs x y)), some (.int many), some (.int (x.fmod many))]) (c2_ev (d := .int x) (e := .int many) (c2_ev rfl rfl rfl) rfl (fdivD_int (by omega) (small_pow (by omega)))) rfl rfl)).trans rfl
  · rw [Int.fmod_eq_emod_of_nonneg _ (by omega)]
    exact Int.emod_nonneg _ (by omega)
  · rw [Int.fmod_eq_emod_of_nonneg _ (by omega)]
    exact Int.emod_lt_of_pos _ (by omega)
end Lb
namespace Lb
open PySem hiding Env
open Dn
variable [Wd]

structure WS (g : CS) (δ : Env) (Q : Fl → Prop) : Prop where
  run : ∃ fl, g δ = some fl ∧ Q fl
structure WE (f : CE) (δ : Env) (Q : D → Env → Prop) : Prop where
  run : ∃ d δ', f δ = some (d, δ') ∧ Q d δ'
structure WA (f : CA) (δ : Env) (Q : List D → Env → Prop) : Prop where
  run : ∃ d δ', f δ = some (d, δ') ∧ Q d δ'
structure WT (f : CT) (δ : Env) (Q : Bool → Env → Prop) : Prop where
  run : ∃ d δ', f δ = some (d, δ') ∧ Q d δ'
structure WP (f : CP) (δ : Env) (Q : Option Int → Env → Prop) : Prop where
  run : ∃ d δ', f δ = some (d, δ') ∧ Q d δ'
/-- an operation on data -/
structure WO (o : Option D) (Q : D → Prop) : Prop where
  run : ∃ d, o = some d ∧ Q d
/-- a call -/
structure WF (F : List D → Option D) (ds : List D) (Q : D → Prop) : Prop where
  run : ∃ d, F ds = some d ∧ Q d
/-- what is walked -/
structure WL (o : Option (List D)) (Q : List D → Prop) : Prop where
  run : ∃ d, o = some d ∧ Q d
/-- a branch -/
structure WB (b : Bool) (Q : Bool → Prop) : Prop where
  run : Q b
/-- a target -/
structure WG (t : CG) (d : D) (δ : Env) (Q : Env → Prop) : Prop where
  run : ∃ δ', t d δ = some δ' ∧ Q δ'
structure WGs (t : List D → Env → Option Env) (ds : List D) (δ : Env) (Q : Env → Prop) : Prop where
  run : ∃ δ', t ds δ = some δ' ∧ Q δ'
theorem WS.mono {g : CS} {δ : Env} {Q Q' : Fl → Prop} (h : WS g δ Q) (i : ∀ fl, Q fl → Q' fl) : WS g δ Q' := ⟨let ⟨fl, e, q⟩ := h.run; ⟨fl, e, i _ q⟩⟩
theorem WE.mono {g : CE} {δ : Env} {Q Q' : D → Env → Prop} (h : WE g δ Q) (i : ∀ d δ, Q d δ → Q' d δ) : WE g δ Q' := ⟨let ⟨d, δ', e, q⟩ := h.run; ⟨d, δ', e, i _ _ q⟩⟩

section
variable {f g h : CE} {fa : CA} {t t2 : CT} {s s2 s3 : CS} {δ : Env} {Q : Fl → Prop} {R : D → Env → Prop} {RA : List D → Env → Prop} {RT : Bool → Env → Prop} {i j k : Nat}
theorem fn_of {n m : Nat} {ds : List D} {d : D} {δ0 : Env} (hl : ds.length = m) (he : ent n ds = δ0) (w : WS s δ0 fun fl => ∃ δ, fl = .rt d δ) : fnF s n m ds = some d := by
  obtain ⟨fl, e, δ, rfl⟩ := w.run
  subst he
  exact fnF_rt hl e
theorem fn_any {n m : Nat} {ds : List D} {P : D → Prop} {δ0 : Env} (hl : ds.length = m) (he : ent n ds = δ0) (w : WS s δ0 fun fl => ∃ d δ, fl = .rt d δ ∧ P d) : ∃ d, fnF s n m ds = some d ∧ P d := by
  obtain ⟨fl, e, d, δ, rfl, p⟩ := w.run
  subst he
  exact ⟨d, fnF_rt hl e, p⟩
theorem fnI_any {n m : Nat} {ds0 ds : List D} {P : D → List D → Prop} {δ0 : Env} (hl : ds.length + 1 = m) (he : ent n (.list ds0 :: ds) = δ0) (w : WS s δ0 fun fl => ∃ d δ l, fl = .rt d δ ∧ δ[0]? = some (some (.list l)) ∧ P d l) : ∃ d l, fnI s n m ds0 ds = some (d, l) ∧ P d l := by
  obtain ⟨fl, e, d, δ, l, rfl, h0, p⟩ := w.run
  subst he
  exact ⟨d, l, fnI_rt hl e (by unfold io0; rw [h0]), p⟩

theorem ws_assoc (w : WS (seqS s (seqS s2 s3)) δ Q) : WS (seqS (seqS s s2) s3) δ Q := by
  obtain ⟨fl, e, q⟩ := w.run
  refine ⟨fl, ?_, q⟩
  unfold seqS at e ⊢
  cases h1 : s δ with
  | none => rw [h1] at e; cases e
  | some f1 =>
    rw [h1] at e
    dsimp only [Option.bind_some] at e ⊢
    cases f1 <;> exact e
theorem ws_skip (w : WS s δ Q) : WS (seqS skip s) δ Q := ⟨w.run⟩
theorem ws_end (q : Q (.nx δ)) : WS skip δ Q := ⟨_, rfl, q⟩
theorem ws_asg {tg : CG} (w : WE f δ fun d δ1 => WG tg d δ1 fun δ2 => WS s δ2 Q) : WS (seqS (asgS tg f) s) δ Q := by
  obtain ⟨d, δ1, e1, w1⟩ := w.run
  obtain ⟨δ2, e2, w2⟩ := w1.run
  obtain ⟨fl, e3, q⟩ := w2.run
  exact ⟨fl, (seqS_nx (asgS_ev e1 e2)).trans e3, q⟩
theorem wg_set {d : D} {Q : Env → Prop} (hb : Nat.blt i δ.length = true) (q : Q (δ.set i (some d))) : WG (stS i) d δ Q := by
  have hi : i < δ.length := Nat.le_of_ble_eq_true hb
  refine ⟨_, ?_, q⟩
  unfold stS
  rw [if_pos hi]
theorem wg_tup {n : Nat} {u : List D → Env → Option Env} {ds : List D} {Q : Env → Prop} (hl : ds.length = n) (w : WGs u ds δ Q) : WG (tgT n u) (.tuple ds) δ Q := by
  obtain ⟨δ', e, q⟩ := w.run
  refine ⟨δ', ?_, q⟩
  show (if ds.length = n then u ds δ else none) = _
  rw [if_pos hl, e]
theorem wgs_nil {Q : Env → Prop} (q : Q δ) : WGs tNil' [] δ Q := ⟨δ, rfl, q⟩
theorem wgs_cons {tg : CG} {u : List D → Env → Option Env} {d : D} {ds : List D} {Q : Env → Prop} (w : WG tg d δ fun δ1 => WGs u ds δ1 Q) : WGs (tCons' tg u) (d :: ds) δ Q := by
  obtain ⟨δ1, e1, w1⟩ := w.run
  obtain ⟨δ2, e2, q⟩ := w1.run
  refine ⟨δ2, ?_, q⟩
  show (tg d δ).bind (fun δ' => u ds δ') = _
  rw [e1]
  exact e2
theorem ws_rt (w : WE f δ fun d δ1 => Q (.rt d δ1)) : WS (seqS (rtS f) s) δ Q := by
  obtain ⟨d, δ1, e1, q⟩ := w.run
  exact ⟨_, seqS_rt (rtS_ev e1), q⟩
theorem ws_if (w : WT t δ fun b δ1 => WB b fun b => match b with | true => WS (seqS s s3) δ1 Q | false => WS (seqS s2 s3) δ1 Q) : WS (seqS (ifS t s s2) s3) δ Q := by
  obtain ⟨b, δ1, e1, w1⟩ := w.run
  have w1 := w1.run
  cases b with
  | true =>
    obtain ⟨fl, e, q⟩ := w1.run
    refine ⟨fl, ?_, q⟩
    unfold seqS at e ⊢
    rw [ifS_t e1]
    exact e
  | false =>
    obtain ⟨fl, e, q⟩ := w1.run
    refine ⟨fl, ?_, q⟩
    unfold seqS at e ⊢
    rw [ifS_f e1]
    exact e
theorem wb_t {Q : Bool → Prop} (q : Q true) : WB true Q := ⟨q⟩
theorem wb_f {Q : Bool → Prop} (q : Q false) : WB false Q := ⟨q⟩
theorem wb_of {b c : Bool} {Q : Bool → Prop} (e : b = c) (w : WB c Q) : WB b Q := e ▸ w
theorem wb_cases {b : Bool} {Q : Bool → Prop} (h1 : b = true → WB true Q) (h2 : b = false → WB false Q) : WB b Q := by
  cases b with
  | true => exact h1 rfl
  | false => exact h2 rfl
theorem ws_app {ds : List D} (h0 : δ[i]? = some (some (.list ds))) (w : WE f δ fun d δ1 => ∃ ds1, δ1[i]? = some (some (.list ds1)) ∧ ds1.length < 16777216 ∧ WS s (δ1.set i (some (.list (ds1 ++ [d])))) Q) : WS (seqS (apS i f) s) δ Q := by
  obtain ⟨d, δ1, e1, ds1, h1, h2, w1⟩ := w.run
  obtain ⟨fl, e3, q⟩ := w1.run
  exact ⟨fl, (seqS_nx (apS_ev h0 e1 h1 h2 rfl)).trans e3, q⟩
theorem ws_ext {ds : List D} (h0 : δ[i]? = some (some (.list ds))) (w : WE f δ fun d δ1 => ∃ es ds1, d = .list es ∧ δ1[i]? = some (some (.list ds1)) ∧ ds1.length + es.length ≤ 16777216 ∧ WS s (δ1.set i (some (.list (ds1 ++ es)))) Q) : WS (seqS (exL i f) s) δ Q := by
  obtain ⟨d, δ1, e1, es, ds1, rfl, h1, h2, w1⟩ := w.run
  obtain ⟨fl, e3, q⟩ := w1.run
  refine ⟨fl, (seqS_nx ?_).trans e3, q⟩
  unfold exL
  rw [h0]
  show ((f δ).bind _) = _
  rw [e1]
  show (match (PyData.list es), δ1[i]? with
    | .list es, some (some (.list ds)) => if ds.length + es.length ≤ sizeLine then some (Fl.nx (δ1.set i (some (.list (ds ++ es))))) else none
    | _, _ => none) = _
  rw [h1]
  exact if_pos h2
theorem ws_par2 (w : WE f δ fun d δ1 => WE g δ1 fun e δ2 => WG (stS i) d δ2 fun δ3 => WG (stS j) e δ3 fun δ4 => WS s δ4 Q) : WS (seqS (par2S i j f g) s) δ Q := by
  obtain ⟨d, δ1, e1, w1⟩ := w.run
  obtain ⟨e, δ2, e2, w2⟩ := w1.run
  obtain ⟨δ3, e3, w3⟩ := w2.run
  obtain ⟨δ4, e4, w4⟩ := w3.run
  obtain ⟨fl, e5, q⟩ := w4.run
  refine ⟨fl, (seqS_nx ?_).trans e5, q⟩
  unfold par2S
  rw [e1]
  dsimp only [Option.bind_some]
  rw [e2]
  dsimp only [Option.bind_some]
  rw [e3]
  dsimp only [Option.bind_some]
  rw [e4]
  rfl
theorem ws_par3 (w : WE f δ fun d δ1 => WE g δ1 fun e δ2 => WE h δ2 fun x δ2 => WG (stS i) d δ2 fun δ3 => WG (stS j) e δ3 fun δ4 => WG (stS k) x δ4 fun δ5 => WS s δ5 Q) : WS (seqS (par3S i j k f g h) s) δ Q := by
  obtain ⟨d, δ1, e1, w1⟩ := w.run
  obtain ⟨e, δ2, e2, w2⟩ := w1.run
  obtain ⟨x, δ2', e2', w2⟩ := w2.run
  obtain ⟨δ3, e3, w3⟩ := w2.run
  obtain ⟨δ4, e4, w4⟩ := w3.run
  obtain ⟨δ5, e5, w5⟩ := w4.run
  obtain ⟨fl, e6, q⟩ := w5.run
  refine ⟨fl, (seqS_nx ?_).trans e6, q⟩
  unfold par3S
  rw [e1]
  dsimp only [Option.bind_some]
  rw [e2]
  dsimp only [Option.bind_some]
  rw [e2']
  dsimp only [Option.bind_some]
  rw [e3]
  dsimp only [Option.bind_some]
  rw [e4]
  dsimp only [Option.bind_some]
  rw [e5]
  rfl
theorem ws_aug {φ : D → D → Option D} {old : D} (h0 : δ[i]? = some (some old)) (w : WE f δ fun d δ1 => WO (φ old d) fun r => WS s (δ1.set i (some r)) Q) : WS (seqS (auS i φ f) s) δ Q := by
  obtain ⟨d, δ1, e1, w1⟩ := w.run
  obtain ⟨r, e2, w2⟩ := w1.run
  obtain ⟨fl, e3, q⟩ := w2.run
  refine ⟨fl, (seqS_nx ?_).trans e3, q⟩
  unfold auS
  rw [h0]
  dsimp only
  rw [e1]
  dsimp only [Option.bind_some]
  rw [e2]
  rfl
/-- a for that goes through, with what is true all along -/
theorem ws_forI {tg : CG} (I : Env → Prop) (w : WA fa δ fun ds δ1 => I δ1 ∧ (∀ d ∈ ds, ∀ δ, I δ → WG tg d δ fun δ2 => WS s2 δ2 (On I)) ∧ ∀ δ', I δ' → WS s δ' Q) : WS (seqS (forS fa tg s2) s) δ Q := by
  obtain ⟨ds, δ1, e1, i1, st, nx⟩ := w.run
  obtain ⟨δ', e2, i2⟩ := forL_inv I i1 fun d hd δ hi => by
    obtain ⟨δ2, e2, w2⟩ := (st d hd δ hi).run
    obtain ⟨fl, e3, q⟩ := w2.run
    exact ⟨δ2, fl, e2, e3, q⟩
  obtain ⟨fl, e3, q⟩ := (nx δ' i2).run
  exact ⟨fl, (seqS_nx ((forS_ev e1).trans e2)).trans e3, q⟩
/-- .. over things of a type, with a state -/
theorem ws_forS {α S : Type} {tg : CG} (enc : α → D) (l : List α) (I : S → Env → Prop) (step : S → α → S) (s0 : S)
    (w : WA fa δ fun ds δ1 => ds = l.map enc ∧ I s0 δ1 ∧ (∀ st a δ, a ∈ l → I st δ → WG tg (enc a) δ fun δ2 => WS s2 δ2 (On (I (step st a)))) ∧ ∀ δ', I (l.foldl step s0) δ' → WS s δ' Q) : WS (seqS (forS fa tg s2) s) δ Q := by
  obtain ⟨ds, δ1, e1, rfl, i1, st, nx⟩ := w.run
  have go : ∀ (m : List α) (s0 : S) (δ : Env), (∀ a ∈ m, a ∈ l) → I s0 δ → ∃ δ', forL tg s2 (m.map enc) δ = some (.nx δ') ∧ I (m.foldl step s0) δ' := by
    intro m
    induction m with
    | nil => exact fun s0 δ _ h => ⟨δ, rfl, h⟩
    | cons a m ih =>
      intro s0 δ hm hi
      obtain ⟨δ2, e2, w2⟩ := (st s0 a δ (hm a List.mem_cons_self) hi).run
      obtain ⟨fl, e3, q⟩ := w2.run
      cases fl with
      | nx δ3 =>
        obtain ⟨δ', e4, i4⟩ := ih (step s0 a) δ3 (fun b hb => hm b (List.mem_cons_of_mem _ hb)) q
        exact ⟨δ', (forL_nx e2 e3).trans e4, i4⟩
      | ct δ3 =>
        obtain ⟨δ', e4, i4⟩ := ih (step s0 a) δ3 (fun b hb => hm b (List.mem_cons_of_mem _ hb)) q
        exact ⟨δ', (forL_ct e2 e3).trans e4, i4⟩
      | rt _ _ => exact q.elim
      | bk _ => exact q.elim
  obtain ⟨δ', e2, i2⟩ := go l s0 δ1 (fun _ h => h) i1
  obtain ⟨fl, e3, q⟩ := (nx δ' i2).run
  exact ⟨fl, (seqS_nx ((forS_ev e1).trans e2)).trans e3, q⟩
theorem we_rd {d : D} (h : δ[i]? = some (some d)) (q : R d δ) : WE (rd i) δ R := ⟨d, δ, by unfold rd; rw [h], q⟩
theorem we_cst {d : D} (q : R d δ) : WE (cst d) δ R := ⟨d, δ, rfl, q⟩
theorem we_c2 {φ : D → D → Option D} (w : WE f δ fun d δ1 => WE g δ1 fun e δ2 => WO (φ d e) fun r => R r δ2) : WE (c2 φ f g) δ R := by
  obtain ⟨d, δ1, e1, w1⟩ := w.run
  obtain ⟨e, δ2, e2, w2⟩ := w1.run
  obtain ⟨r, e3, q⟩ := w2.run
  exact ⟨r, δ2, c2_ev e1 e2 e3, q⟩
theorem we_c1 {φ : D → Option D} (w : WE f δ fun d δ1 => WO (φ d) fun r => R r δ1) : WE (c1 φ f) δ R := by
  obtain ⟨d, δ1, e1, w1⟩ := w.run
  obtain ⟨r, e3, q⟩ := w1.run
  exact ⟨r, δ1, c1_ev e1 e3, q⟩
theorem we_c3 {φ : D → D → D → Option D} (w : WE f δ fun d δ1 => WE g δ1 fun e δ2 => WE h δ2 fun x δ3 => WO (φ d e x) fun r => R r δ3) : WE (c3 φ f g h) δ R := by
  obtain ⟨d, δ1, e1, w1⟩ := w.run
  obtain ⟨e, δ2, e2, w2⟩ := w1.run
  obtain ⟨x, δ3, e3, w3⟩ := w2.run
  obtain ⟨r, e4, q⟩ := w3.run
  refine ⟨r, δ3, ?_, q⟩
  unfold c3
  rw [e1]
  dsimp only [Option.bind_some]
  rw [e2]
  dsimp only [Option.bind_some]
  rw [e3]
  dsimp only [Option.bind_some]
  rw [e4]
  rfl
theorem we_isi {T : String} (w : WE f δ fun d δ1 => noDic d = true ∧ R (.bool (isiB T d)) δ1) : WE (isiW T f) δ R := by
  obtain ⟨d, δ1, e1, hd, q⟩ := w.run
  exact ⟨_, δ1, isiW_ev e1 hd, q⟩
theorem we_rv (w : WE f δ fun d δ1 => WO (revD d) fun r => R r δ1) : WE (rvV f) δ R := we_c1 w
theorem we_call {F : List D → Option D} (w : WA fa δ fun ds δ1 => WF F ds fun r => R r δ1) : WE (cN F fa) δ R := by
  obtain ⟨d, δ1, e1, w1⟩ := w.run
  obtain ⟨r, e3, q⟩ := w1.run
  exact ⟨r, δ1, cN_ev e1 e3, q⟩
theorem wa_nil (q : RA [] δ) : WA aNil δ RA := ⟨[], δ, rfl, q⟩
theorem wa_cons (w : WE f δ fun d δ1 => WA fa δ1 fun ds δ2 => RA (d :: ds) δ2) : WA (aCons f fa) δ RA := by
  obtain ⟨d, δ1, e1, w1⟩ := w.run
  obtain ⟨ds, δ2, e2, q⟩ := w1.run
  exact ⟨_, δ2, aCons_ev e1 e2, q⟩
theorem we_tup (w : WA fa δ fun ds δ1 => R (.tuple ds) δ1) : WE (tupV fa) δ R := by
  obtain ⟨d, δ1, e1, q⟩ := w.run
  exact ⟨_, δ1, tupV_ev e1, q⟩
theorem we_lst (w : WA fa δ fun ds δ1 => R (.list ds) δ1) : WE (lstV fa) δ R := by
  obtain ⟨d, δ1, e1, q⟩ := w.run
  exact ⟨_, δ1, lstV_ev e1, q⟩
theorem we_ifV (w : WT t δ fun b δ1 => WB b fun b => match b with | true => WE f δ1 R | false => WE g δ1 R) : WE (ifV t f g) δ R := by
  obtain ⟨b, δ1, e1, w1⟩ := w.run
  have w1 := w1.run
  cases b with
  | true => obtain ⟨d, δ2, e2, q⟩ := w1.run; exact ⟨d, δ2, (ifV_t e1).trans e2, q⟩
  | false => obtain ⟨d, δ2, e2, q⟩ := w1.run; exact ⟨d, δ2, (ifV_f e1).trans e2, q⟩
theorem we_and (w : WE f δ fun d δ1 => ∃ b, truD d = some b ∧ WB b fun b => match b with | true => WE g δ1 R | false => R d δ1) : WE (andV f g) δ R := by
  obtain ⟨d, δ1, e1, b, hb, w1⟩ := w.run
  have w1 := w1.run
  cases b with
  | true => obtain ⟨d2, δ2, e2, q⟩ := w1.run; exact ⟨d2, δ2, (andV_t e1 hb).trans e2, q⟩
  | false => exact ⟨d, δ1, andV_f e1 hb, w1⟩
theorem we_or (w : WE f δ fun d δ1 => ∃ b, truD d = some b ∧ WB b fun b => match b with | true => R d δ1 | false => WE g δ1 R) : WE (orV f g) δ R := by
  obtain ⟨d, δ1, e1, b, hb, w1⟩ := w.run
  have w1 := w1.run
  cases b with
  | true => exact ⟨d, δ1, orV_t e1 hb, w1⟩
  | false => obtain ⟨d2, δ2, e2, q⟩ := w1.run; exact ⟨d2, δ2, (orV_f e1 hb).trans e2, q⟩
theorem we_sl {lo hi : CP} (w : WE f δ fun d δ1 => WP lo δ1 fun l δ2 => WP hi δ2 fun u δ3 => WO (slD d l u) fun r => R r δ3) : WE (slV f lo hi) δ R := by
  obtain ⟨d, δ1, e1, w1⟩ := w.run
  obtain ⟨l, δ2, e2, w2⟩ := w1.run
  obtain ⟨u, δ3, e3, w3⟩ := w2.run
  obtain ⟨r, e4, q⟩ := w3.run
  exact ⟨r, δ3, slV_ev e1 e2 e3 e4, q⟩
theorem wp_no {Q : Option Int → Env → Prop} (q : Q none δ) : WP noPt δ Q := ⟨none, δ, rfl, q⟩
theorem wp_of {Q : Option Int → Env → Prop} (w : WE f δ fun d δ1 => ∃ i, d = .int i ∧ Q (some i) δ1) : WP (ptOf f) δ Q := by
  obtain ⟨d, δ1, e1, i, rfl, q⟩ := w.run
  refine ⟨some i, δ1, ?_, q⟩
  unfold ptOf
  rw [e1]
  rfl
theorem wt_b (w : WE f δ fun d δ1 => ∃ b, d = .bool b ∧ RT b δ1) : WT (tstB f) δ RT := by
  obtain ⟨d, δ1, e1, b, rfl, q⟩ := w.run
  exact ⟨b, δ1, tstB_ev e1, q⟩
theorem wt_v (w : WE f δ fun d δ1 => ∃ b, truD d = some b ∧ RT b δ1) : WT (tst f) δ RT := by
  obtain ⟨d, δ1, e1, b, hb, q⟩ := w.run
  exact ⟨b, δ1, tst_ev e1 hb, q⟩
theorem wt_not (w : WT t δ fun b δ1 => RT (!b) δ1) : WT (notT t) δ RT := by
  obtain ⟨b, δ1, e1, q⟩ := w.run
  exact ⟨!b, δ1, by unfold notT; rw [e1]; rfl, q⟩
theorem wt_and (w : WT t δ fun b δ1 => WB b fun b => match b with | true => WT t2 δ1 RT | false => RT false δ1) : WT (andT t t2) δ RT := by
  obtain ⟨b, δ1, e1, w1⟩ := w.run
  have w1 := w1.run
  cases b with
  | true => obtain ⟨c, δ2, e2, q⟩ := w1.run; exact ⟨c, δ2, (andT_t e1).trans e2, q⟩
  | false => exact ⟨false, δ1, andT_f e1, w1⟩
theorem wt_or (w : WT t δ fun b δ1 => WB b fun b => match b with | true => RT true δ1 | false => WT t2 δ1 RT) : WT (orT t t2) δ RT := by
  obtain ⟨b, δ1, e1, w1⟩ := w.run
  have w1 := w1.run
  cases b with
  | true => exact ⟨true, δ1, orT_t e1, w1⟩
  | false => obtain ⟨c, δ2, e2, q⟩ := w1.run; exact ⟨c, δ2, (orT_f e1).trans e2, q⟩
theorem wt_yes (q : RT true δ) : WT yesT δ RT := ⟨true, δ, rfl, q⟩
theorem we_ch {φ ψ : D → D → Option D} (w : WE f δ fun d δ1 => WE g δ1 fun e δ2 => WO (φ d e) fun r => ∃ b, r = .bool b ∧ WB b fun b => match b with | true => WE h δ2 fun x δ3 => WO (ψ e x) fun r => R r δ3 | false => R (.bool false) δ2) : WE (ch φ ψ f g h) δ R := by
  obtain ⟨d, δ1, e1, w1⟩ := w.run
  obtain ⟨e, δ2, e2, w2⟩ := w1.run
  obtain ⟨r, e3, b, rfl, w3⟩ := w2.run
  have w3 := w3.run
  cases b with
  | true =>
    obtain ⟨x, δ3, e4, w4⟩ := w3.run
    obtain ⟨r, e5, q⟩ := w4.run
    refine ⟨r, δ3, ?_, q⟩
    unfold ch
    rw [e1]
    dsimp only [Option.bind_some]
    rw [e2]
    dsimp only [Option.bind_some]
    rw [e3]
    dsimp only [Option.bind_some]
    rw [e4]
    dsimp only [Option.bind_some]
    rw [e5]
    rfl
  | false =>
    refine ⟨_, δ2, ?_, w3⟩
    unfold ch
    rw [e1]
    dsimp only [Option.bind_some]
    rw [e2]
    dsimp only [Option.bind_some]
    rw [e3]
    rfl
theorem wa_seq (w : WE f δ fun d δ1 => WL (itemsD d) fun ds => RA ds δ1) : WA (seqI f) δ RA := by
  obtain ⟨d, δ1, e1, w1⟩ := w.run
  obtain ⟨ds, e2, q⟩ := w1.run
  exact ⟨ds, δ1, seqI_ev e1 e2, q⟩
theorem wa_it {φ : D → Option (List D)} (w : WE f δ fun d δ1 => WL (φ d) fun ds => RA ds δ1) : WA (itI φ f) δ RA := by
  obtain ⟨d, δ1, e1, w1⟩ := w.run
  obtain ⟨ds, e2, q⟩ := w1.run
  refine ⟨ds, δ1, ?_, q⟩
  unfold itI
  rw [e1]
  dsimp only [Option.bind_some]
  rw [e2]
  rfl
theorem wa_rg {φ : List D → Option (List D)} (w : WA fa δ fun as δ1 => WL (φ as) fun ds => RA ds δ1) : WA (rgV φ fa) δ RA := by
  obtain ⟨d, δ1, e1, w1⟩ := w.run
  obtain ⟨ds, e2, q⟩ := w1.run
  exact ⟨ds, δ1, rgV_ev e1 e2, q⟩
theorem wo_r {o : Option D} {d : D} {Q : D → Prop} (e : o = some d) (q : Q d) : WO o Q := ⟨d, e, q⟩
theorem wf_r {F : List D → Option D} {ds : List D} {d : D} {Q : D → Prop} (e : F ds = some d) (q : Q d) : WF F ds Q := ⟨d, e, q⟩
theorem wl_r {o : Option (List D)} {d : List D} {Q : List D → Prop} (e : o = some d) (q : Q d) : WL o Q := ⟨d, e, q⟩
theorem we_draw {tp : List D} {n : Int} (h0 : δ[i]? = some (some (.list tp))) (ht : BoxOk tp) (h1 : 1 ≤ n) (h2 : n < 2 ^ 64) (q : ∀ d tp', 0 ≤ d → d < n → BoxOk tp' → R (.int d) (δ.set i (some (.list tp')))) (hf : fa δ = some ([.int n], δ)) : WE (ioV i F__law_draw fa) δ R := by
  obtain ⟨d, tp', e, a, b, c⟩ := draw_ev ht h1 h2
  exact ⟨_, _, ioV_ev h0 hf h0 e rfl, q d tp' a b c⟩
/-- a call that writes what a slot holds -/
theorem we_io {F : List D → List D → Option (D × List D)} {tp : List D} (h0 : δ[i]? = some (some (.list tp))) (w : WA fa δ fun as δ1 => ∃ tp1 r tp2, δ1[i]? = some (some (.list tp1)) ∧ F tp1 as = some (r, tp2) ∧ R r (δ1.set i (some (.list tp2)))) : WE (ioV i F fa) δ R := by
  obtain ⟨as, δ1, e1, tp1, r, tp2, h1, e2, q⟩ := w.run
  exact ⟨_, _, ioV_ev h0 e1 h1 e2 rfl, q⟩

/-- what one item comes to: taken or not, the value -/
structure LcOk (t : CG) (own : List Nat) (c : CT) (f : CE) (δ : Env) (d : D) (b : Bool) (r : D) : Prop where
  run : WG t d (wipeD δ own) fun δ1 => wipeD δ1 own = wipeD δ own ∧ WT c δ1 fun b' δ2 => b' = b ∧ δ2 = δ1 ∧ (b = true → WE f δ1 fun r' δ3 => r' = r ∧ δ3 = δ1)
/-- the own slots are put back: all is as it was -/
theorem back_same {δ0 δ : Env} {vs : List Nat} (h : wipeD δ vs = wipeD δ0 vs) : backD δ0 δ vs = δ0 := by
  have hl : δ.length = δ0.length := by
    have := congrArg List.length h
    rwa [wipeD_length, wipeD_length] at this
  apply List.ext_getElem?
  intro j
  by_cases hj : j ∈ vs
  · by_cases hlt : j < δ.length
    · have go : ∀ (vs : List Nat), j ∈ vs → (backD δ0 δ vs)[j]? = some (δ0[j]?.join) := by
        intro vs
        induction vs with
        | nil => intro h; cases h
        | cons v vs ih =>
          intro hm
          unfold backD
          by_cases e : v = j
          · subst e
            rw [List.getElem?_set_self (by rw [backD_length]; exact hlt)]
          · rw [List.getElem?_set_ne e]
            rcases List.mem_cons.mp hm with z | z
            · exact absurd z.symm e
            · exact ih z
      rw [go vs hj, List.getElem?_eq_getElem (by omega)]
      rfl
    · rw [List.getElem?_eq_none (by rw [backD_length]; omega), List.getElem?_eq_none (by omega)]
  · rw [backD_out hj]
    have := congrArg (fun l => l[j]?) h
    simpa only [wipeD_out hj] using this
theorem lc_run {α : Type} {t : CG} {own : List Nat} {c : CT} {f : CE} (enc : α → D) (p : α → Bool) (φ : α → D) (δ0 : Env) : ∀ (l : List α) (δ : Env), wipeD δ own = wipeD δ0 own → (∀ a ∈ l, LcOk t own c f δ0 (enc a) (p a) (φ a)) → ∃ δ', lcL t own c f (l.map enc) δ = some ((l.filter p).map φ, δ') ∧ wipeD δ' own = wipeD δ0 own
  | [], δ, h, _ => ⟨δ, rfl, h⟩
  | a :: l, δ, h, ok => by
    obtain ⟨δ1, e1, hw, w⟩ := (ok a List.mem_cons_self).run.run
    obtain ⟨b, δ2, e2, rfl, rfl, w2⟩ := w.run
    rw [← h] at e1
    have rest := fun δ h => lc_run enc p φ δ0 l δ h fun a ha => ok a (List.mem_cons_of_mem _ ha)
    rw [List.map_cons]
    unfold lcL
    rw [e1]
    dsimp only [Option.bind_some]
    rw [e2]
    dsimp only [Option.bind_some]
    cases hp : p a with
    | true =>
      obtain ⟨r, δ3, e3, rfl, rfl⟩ := (w2 hp).run
      obtain ⟨δ', e4, h4⟩ := rest _ hw
      refine ⟨δ', ?_, h4⟩
      rw [if_pos rfl, e3]
      dsimp only [Option.bind_some]
      rw [e4]
      simp [hp]
    | false =>
      obtain ⟨δ', e4, h4⟩ := rest _ hw
      refine ⟨δ', ?_, h4⟩
      rw [if_neg (by decide), e4]
      simp [hp]
theorem we_lc {α : Type} {tg : CG} {own : List Nat} (enc : α → D) (l : List α) (p : α → Bool) (φ : α → D) (w : WA fa δ fun ds δ1 => ds = l.map enc ∧ (∀ a ∈ l, LcOk tg own t f δ1 (enc a) (p a) (φ a)) ∧ R (.list ((l.filter p).map φ)) δ1) : WE (lcV fa tg own t f) δ R := by
  obtain ⟨ds, δ1, e1, rfl, ok, q⟩ := w.run
  obtain ⟨δ', e2, hw⟩ := lc_run enc p φ δ1 l δ1 rfl ok
  refine ⟨_, _, lcV_ev e1 e2, ?_⟩
  rw [back_same hw]
  exact q
/-- without a test -/
theorem we_lcm {α : Type} {tg : CG} {own : List Nat} (enc : α → D) (l : List α) (φ : α → D) (w : WA fa δ fun ds δ1 => ds = l.map enc ∧ (∀ a ∈ l, LcOk tg own yesT f δ1 (enc a) true (φ a)) ∧ R (.list (l.map φ)) δ1) : WE (lcV fa tg own yesT f) δ R := by
  refine we_lc enc l (fun _ => true) φ ?_
  obtain ⟨ds, δ1, e1, h1, ok, q⟩ := w.run
  exact ⟨ds, δ1, e1, h1, ok, by rw [List.filter_eq_self.mpr fun _ _ => rfl]; exact q⟩
/-- a comprehension that draws: what is known of each item -/
theorem we_lcd {β : Type} {tg : CG} {own : List Nat} (enc : β → D) (P : β → Prop) (I : Env → Prop) (w : WA fa δ fun ds δ1 => I δ1 ∧ (∀ d ∈ ds, ∀ δ, I δ → WG tg d (wipeD δ own) fun δ2 => WE f δ2 fun r δ3 => ∃ b, r = enc b ∧ P b ∧ I δ3) ∧
    ∀ (l : List β) δ', I δ' → (∀ b ∈ l, P b) → l.length = ds.length → R (.list (l.map enc)) (backD δ1 δ' own)) : WE (lcV fa tg own yesT f) δ R := by
  obtain ⟨ds, δ1, e1, i1, st, q⟩ := w.run
  obtain ⟨l, δ', e2, i2, hp, hn⟩ := lcL_any (t := tg) (own := own) (f := f) enc P I (ds := ds) i1 fun d hd δ hi => by
    obtain ⟨δ2, e2, w2⟩ := (st d hd δ hi).run
    obtain ⟨r, δ3, e3, b, rfl, hb, hi3⟩ := w2.run
    exact ⟨δ2, δ3, b, e2, e3, hb, hi3⟩
  exact ⟨_, _, lcV_ev e1 e2, q l δ' i2 hp hn⟩
end
end Lb
namespace Lb
open PySem hiding Env
open Dn
variable [Wd]

theorem neD_int (i j : Int) : neD (.int i) (.int j) = some (.bool (!decide (i = j))) := by
  rw [neD_ev (n := 0) (.int i) (.int j) (by omega)]
  simp only [PyData.eqv]
  rfl
theorem leD_int (i j : Int) : leD (.int i) (.int j) = some (.bool (decide (i ≤ j))) := rfl
theorem modD_pos {i j : Int} (h : 0 < j) : modD (.int i) (.int j) = some (.int (i % j)) := by
  rw [modD_int (by omega), Int.fmod_eq_emod_of_nonneg _ (by omega)]
theorem fdivD_pos {i j : Int} (h : 0 < j) (h2 : j < 2 ^ 64) : fdivD (.int i) (.int j) = some (.int (i / j)) := by
  rw [fdivD_int (by omega) (small_pow (by omega)), Int.fdiv_eq_ediv_of_nonneg _ (by omega)]
theorem eqD_data {d e : D} (hd : Ok 60 d) (he : Ok 60 e) (nd : nob d = true) (ne : nob e = true) {b : Bool} (h : d = e ↔ b = true) : eqD d e = some (.bool b) := by
  rw [eqD_ev hd he (by omega)]
  congr 2
  rw [Bool.eq_iff_iff, eqv_iff d e nd ne, h]
theorem neD_data {d e : D} (hd : Ok 60 d) (he : Ok 60 e) (nd : nob d = true) (ne : nob e = true) {b : Bool} (h : d = e ↔ b = true) : neD d e = some (.bool (!b)) := by
  rw [neD_ev hd he (by omega)]
  have e : PyData.eqv d e = b := by rw [Bool.eq_iff_iff, eqv_iff d e nd ne, h]
  rw [e]
theorem ixL0 (a : D) (l : List D) : ixD (.list (a :: l)) (.int 0) = some a := atI_nat (i := 0) rfl
theorem ixL1 (a b : D) (l : List D) : ixD (.list (a :: b :: l)) (.int 1) = some b := atI_nat (i := 1) rfl
theorem ixL2 (a b c : D) (l : List D) : ixD (.list (a :: b :: c :: l)) (.int 2) = some c := atI_nat (i := 2) rfl
theorem ixL3 (a b c d : D) (l : List D) : ixD (.list (a :: b :: c :: d :: l)) (.int 3) = some d := atI_nat (i := 3) rfl
theorem ixT0 (a : D) (l : List D) : ixD (.tuple (a :: l)) (.int 0) = some a := atI_nat (i := 0) rfl
theorem ixT1 (a b : D) (l : List D) : ixD (.tuple (a :: b :: l)) (.int 1) = some b := atI_nat (i := 1) rfl
theorem ixT2 (a b c : D) (l : List D) : ixD (.tuple (a :: b :: c :: l)) (.int 2) = some c := atI_nat (i := 2) rfl
theorem ixT3 (a b c d : D) (l : List D) : ixD (.tuple (a :: b :: c :: d :: l)) (.int 3) = some d := atI_nat (i := 3) rfl
theorem addD_int (i j : Int) : addD (.int i) (.int j) = some (.int (i + j)) := rfl
theorem subD_int (i j : Int) : subD (.int i) (.int j) = some (.int (i - j)) := rfl
theorem negD_int (i : Int) : negD (.int i) = some (.int (-i)) := rfl
theorem iaddD_int (i j : Int) : iaddD (.int i) (.int j) = some (.int (i + j)) := rfl
theorem itTr (t : List Pc) : itemsD (encTr t) = some (t.map encP) := rfl
theorem tupTr (t : List Pc) : tupleD [.list (t.map encP)] = some (encTr t) := tupleD_list (imm_Ps t)
theorem cut_drop (ds : List D) (n : Nat) : cutD ds (some (n : Int)) none = ds.drop n := by
  unfold cutD
  rw [HT.sIx_nat, HT.sIx_none]
  by_cases h : n ≤ ds.length
  · rw [Nat.min_eq_left h, List.take_of_length_le]
    rw [List.length_drop]; omega
  · rw [Nat.min_eq_right (by omega), List.drop_length, List.drop_eq_nil_of_le (by omega)]
    simp
theorem rgI_nat (n : Nat) : rgI 0 n = (List.range n).map fun i => (.int (i : Nat) : D) := by
  unfold rgI
  refine List.map_congr_left fun i _ => ?_
  rw [Int.zero_add]
theorem rg1_nat {n : Nat} (h : n ≤ 16777216) : rg1 [.int n] = some ((List.range n).map fun i => (.int (i : Nat) : D)) := by
  rw [rg1_len h, rgI_nat]
def Kd.o : Kd → Kd | .L => .R | .R => .L | .S => .S
def flipP (p : Pc) : Pc := (p.1.o, p.2)
def flipT (t : List Pc) : List Pc := t.map flipP
end Lb
namespace Lb
open PySem Dn
noncomputable section

def den_other_way : CS := (seqS (rtS (tupV (aCons (dgV [("left", .str "right"), ("right", .str "left"), ("straight", .str "straight")] (c2 ixD (rd 0) (cst (.int 0)))) (aCons (c2 ixD (rd 0) (cst (.int 1))) aNil)))) skip)
def F_other_way := fnF den_other_way 1 1
def e1_mirrored_track : CE := (cN F_other_way (aCons (rd 1) aNil))
def den_mirrored_track : CS := (seqS (rtS (cN tupleD (aCons (lcV (seqI (rd 0)) (stS 1) [1] yesT e1_mirrored_track) aNil))) skip)
def F_mirrored_track := fnF den_mirrored_track 2 1
def den_back_track : CS := (seqS (rtS (cN F_mirrored_track (aCons (rvV (rd 0)) aNil))) skip)
def F_back_track := fnF den_back_track 1 1
end
end Lb
namespace Lb
open PySem hiding Env
open Dn
variable [Wd]

theorem other_way_eq (p : Pc) : F_other_way [encP p] = some (encP (flipP p)) := by
  obtain ⟨k, n⟩ := p
  cases k <;> kernel_rfl
theorem mirrored_eq (t : List Pc) : F_mirrored_track [encTr t] = some (encTr (flipT t)) := by
  refine fn_of (δ0 := [some (encTr t), none]) rfl rfl ?_
  unfold den_mirrored_track
  refine ws_rt (we_call (wa_cons (we_lcm encP t (fun p => encP (flipP p)) ?_)))
  refine wa_seq (we_rd rfl (wl_r (itTr t) ⟨rfl, fun p hp => ⟨?_⟩, ?_⟩))
  · refine wg_set rfl ⟨rfl, wt_yes ⟨rfl, rfl, fun _ => ?_⟩⟩
    exact we_call (wa_cons (we_rd rfl (wa_nil (wf_r (other_way_eq p) ⟨rfl, rfl⟩))))
  · refine wa_nil (wf_r (d := encTr (flipT t)) ?_ ⟨_, rfl⟩)
    rw [show (t.map fun p => encP (flipP p)) = (flipT t).map encP by unfold flipT; rw [List.map_map]; rfl]
    exact tupTr _
theorem back_eq (t : List Pc) : F_back_track [encTr t] = some (encTr (flipT t.reverse)) := by
  refine fn_of (δ0 := [some (encTr t)]) rfl rfl ?_
  unfold den_back_track
  exact ws_rt (we_call (wa_cons (we_rv (we_rd rfl (wo_r (revTr t) (wa_nil (wf_r (mirrored_eq _) ⟨_, rfl⟩)))))))
/-- begun k pieces on -/
def rl {α : Type} (k : Nat) (t : List α) : List α := t.drop k ++ t.take k
inductive Mv where | back | flip | mirror | turn
  deriving DecidableEq
def Mv.d : Mv → D
  | .back => .str "back"
  | .flip => .str "flip"
  | .mirror => .str "mirror"
  | .turn => .str "turn"
def byW : Mv → List Pc → List Pc
  | .back, t => flipT t.reverse
  | .flip, t => t.reverse
  | .mirror, t => flipT t
  | .turn, t => t
end Lb
namespace Lb
open PySem hiding Env
open Dn
variable [Wd]

end Lb
namespace Lb
open PySem hiding Env
open Dn
variable [Wd]
def ad (n a b : Nat) : Nat := if a + b < n then a + b else a + b - n
def ng (n a : Nat) : Nat := if a = 0 then 0 else n - a
def sg (n : Nat) : Mv → Nat → Nat
  | .back, k => ng n k
  | .flip, k => ng n k
  | .mirror, k => k
  | .turn, k => k
def act (g : Mv × Nat) (t : List Pc) : List Pc := rl g.2 (byW g.1 t)
def Gp (n : Nat) : List (Mv × Nat) := [Mv.back, .flip, .mirror, .turn].flatMap fun m => (List.range n).map fun k => (m, k)
/-- the moves that leave a track as it was -/
def due (t : List Pc) : List (Mv × Nat) := (Gp t.length).filter fun g => decide (act g t = t)
section
variable {α : Type} [DecidableEq α]
end
end Lb
namespace Lb
open PySem hiding Env
open Dn
variable [Wd]

theorem imm_map {α : Type} (f : α → D) (h : ∀ a, immut (f a) = true) (l : List α) : immutAll (l.map f) = true := imm_all fun d hd => by
  obtain ⟨a, _, rfl⟩ := List.mem_map.mp hd
  exact h a
/-- a for loop, with what was passed -/
theorem ws_forP {α : Type} {fa : CA} {tg : CG} {s2 s : CS} {δ : Env} {Q : Fl → Prop} (enc : α → D) (l : List α) (I : List α → Env → Prop)
    (w : WA fa δ fun ds δ1 => ds = l.map enc ∧ I [] δ1 ∧ (∀ pre a post δ, l = pre ++ a :: post → I pre δ → WG tg (enc a) δ fun δ2 => WS s2 δ2 (On (I (pre ++ [a])))) ∧ ∀ δ', I l δ' → WS s δ' Q) : WS (seqS (forS fa tg s2) s) δ Q := by
  obtain ⟨ds, δ1, e1, rfl, i1, st, nx⟩ := w.run
  have go : ∀ (m pre : List α) (δ : Env), l = pre ++ m → I pre δ → ∃ δ', forL tg s2 (m.map enc) δ = some (.nx δ') ∧ I l δ' := by
    intro m
    induction m with
    | nil => exact fun pre δ e h => ⟨δ, rfl, by rw [e, List.append_nil]; exact h⟩
    | cons a m ih =>
      intro pre δ hl hi
      obtain ⟨δ2, e2, w2⟩ := (st pre a m δ hl hi).run
      obtain ⟨fl, e3, q⟩ := w2.run
      cases fl with
      | nx δ3 =>
        obtain ⟨δ', e4, i4⟩ := ih (pre ++ [a]) δ3 (by rw [hl, List.append_assoc]; rfl) q
        exact ⟨δ', (forL_nx e2 e3).trans e4, i4⟩
      | ct δ3 =>
        obtain ⟨δ', e4, i4⟩ := ih (pre ++ [a]) δ3 (by rw [hl, List.append_assoc]; rfl) q
        exact ⟨δ', (forL_ct e2 e3).trans e4, i4⟩
      | rt _ _ => exact q.elim
      | bk _ => exact q.elim
  obtain ⟨δ', e2, i2⟩ := go l [] δ1 rfl i1
  obtain ⟨fl, e3, q⟩ := (nx δ' i2).run
  exact ⟨fl, (seqS_nx ((forS_ev e1).trans e2)).trans e3, q⟩
end Lb
namespace Lb
open PySem hiding Env
open Dn
variable [Wd]

theorem wb_nt {Q : Bool → Prop} (q : Q false) : WB (!true) Q := ⟨q⟩
theorem wb_nf {Q : Bool → Prop} (q : Q true) : WB (!false) Q := ⟨q⟩
theorem WT.mono {t : CT} {δ : Env} {Q Q' : Bool → Env → Prop} (h : WT t δ Q) (i : ∀ b δ, Q b δ → Q' b δ) : WT t δ Q' := ⟨let ⟨b, δ', e, q⟩ := h.run; ⟨b, δ', e, i _ _ q⟩⟩
theorem addLi {a b : List D} (ha : immutAll a = true) (hb : immutAll b = true) (h : a.length + b.length ≤ 16777216) : addD (.list a) (.list b) = some (.list (a ++ b)) := by
  show (if (immutAll a && immutAll b) = true ∧ a.length + b.length ≤ sizeLine then some (PyData.list (a ++ b)) else none) = _
  rw [if_pos ⟨by rw [ha, hb]; rfl, h⟩]
theorem any_map {α : Type} (f : α → Bool) (l : List α) : anyD [.list (l.map fun a => PyData.bool (f a))] = some (.bool (l.any f)) := by
  have h : asBools (l.map fun a => PyData.bool (f a)) = some (l.map f) := by
    induction l with
    | nil => rfl
    | cons a l ih =>
      show ((asBools (l.map fun a => PyData.bool (f a))).map (f a :: ·)) = _
      rw [ih]
      rfl
  show ((asBools _).map _) = _
  rw [h]
  show some (PyData.bool (List.any _ _)) = _
  rw [List.any_map]
  rfl
theorem all_map {α : Type} (f : α → Bool) (l : List α) : allD [.list (l.map fun a => PyData.bool (f a))] = some (.bool (l.all f)) := by
  have h : asBools (l.map fun a => PyData.bool (f a)) = some (l.map f) := by
    induction l with
    | nil => rfl
    | cons a l ih =>
      show ((asBools (l.map fun a => PyData.bool (f a))).map (f a :: ·)) = _
      rw [ih]
      rfl
  show ((asBools _).map _) = _
  rw [h]
  show some (PyData.bool (List.all _ _)) = _
  rw [List.all_map]
  rfl
end Lb
namespace Dn
open PySem PySem.Spec PyProof.Rows L2
variable [Wd]

end Dn
namespace Lb
open PySem hiding Env
open Dn
variable [Wd]

abbrev lt (x y : D) : Bool := PySem.W.dataLt x y
end Lb
namespace Lb
open PySem hiding Env
open Dn
variable [Wd]

/-- a telling: size, part, to and fro or not, how often -/
structure Tl where
  s : Nat
  p : List Pc
  w : Bool
  m : Nat
  deriving DecidableEq
def TlT (u : List Pc) (s : Nat) : Prop := u.length / s * s = u.length ∧ rep (u.length / s) (u.take s) = u
def TlF (u : List Pc) (s : Nat) : Prop := u.length / (2 * s) * 2 * s = u.length ∧ rep (u.length / (2 * s)) (fro (u.take s)) = u
instance (u : List Pc) (s : Nat) : Decidable (TlT u s) := by unfold TlT; infer_instance
instance (u : List Pc) (s : Nat) : Decidable (TlF u s) := by unfold TlF; infer_instance
def tks (u : List Pc) (s : Nat) : List Tl := (if TlT u s then [⟨s, u.take s, false, u.length / s⟩] else []) ++ if TlF u s then [⟨s, u.take s, true, u.length / (2 * s)⟩] else []
def tlU (u : List Pc) (l : List Nat) : List Tl := l.flatMap fun i => tks u (1 + i)
def tls (t : List Pc) (l : List Nat) : List Tl := l.flatMap fun k => tlU (rl k t) (List.range t.length)
def tells (t : List Pc) : List Tl := tls t (List.range t.length)
end Lb
namespace Lb
open PySem hiding Env
open Dn
variable [Wd]

end Lb
namespace Lb
open PySem hiding Env
open Dn
variable [Wd]

noncomputable def dq (v w : D) : Bool := @decide (v = w) (Classical.propDecidable _)
theorem dq_iff {v w : D} : dq v w = true ↔ v = w := by
  unfold dq
  exact @decide_eq_true_iff (v = w) (Classical.propDecidable _)
theorem dq_self (v : D) : dq v v = true := dq_iff.mpr rfl
theorem lenTu (l : List D) : lenD [.tuple l] = some (.int (l.length : Nat)) := rfl
end Lb
namespace Lb
open PySem hiding Env
open Dn
variable [Wd]

abbrev Bg := List (Pc × Int)
def pt : Bg → Pc → Int → Bg
  | [], p, v => [(p, v)]
  | x :: r, p, v => if x.1 = p then (x.1, v) :: r else x :: pt r p v
def vl : Bg → Pc → Int
  | [], _ => 0
  | x :: r, p => if x.1 = p then x.2 else vl r p
/-- a list of pieces, each once -/
def one (t : List Pc) : Bg := t.map fun p => (p, 1)
end Lb
namespace Dn
open PySem PySem.Spec PyProof.Rows L2
variable [Wd]

section
variable {prog : Program} {w : World} {A : Around} {E : Value → Shared → Prop} {s : Shared}
end
section
variable {X : Cx}
/-- truth of truth values and numbers -/
def asTrus : List D → Option (List Bool)
  | [] => some []
  | .bool b :: ds => (asTrus ds).map (b :: ·)
  | .int i :: ds => (asTrus ds).map ((i != 0) :: ·)
  | _ => none
def anD : List D → Option D
  | [.list ds] => (asTrus ds).map fun ns => .bool (ns.any id)
  | _ => none
theorem asTrus_ok : ∀ {ds : List D} {bs : List Bool}, asTrus ds = some bs → ds.map PyData.truthy = bs ∧ PyData.canLayAll0 ds = true ∧ PyData.plainAll ds = true ∧ ∀ d ∈ ds, d.fits63
  | [], bs, h => by
    cases h
    exact ⟨rfl, rfl, rfl, fun d hd => by simp at hd⟩
  | .bool b :: ds, bs, h => by
    simp only [asTrus] at h
    obtain ⟨ms, h1, rfl⟩ := Option.map_eq_some_iff.mp h
    obtain ⟨a, c, p, f⟩ := asTrus_ok h1
    refine ⟨by rw [List.map_cons, a]; rfl, by simp [PyData.canLayAll0, PyData.canLay0, c], by simp [PyData.plainAll, PyData.plain, p], fun d hd => ?_⟩
    rcases List.mem_cons.mp hd with rfl | hd
    · trivial
    · exact f d hd
  | .int i :: ds, bs, h => by
    simp only [asTrus] at h
    obtain ⟨ms, h1, rfl⟩ := Option.map_eq_some_iff.mp h
    obtain ⟨a, c, p, f⟩ := asTrus_ok h1
    refine ⟨by rw [List.map_cons, a]; rfl, by simp [PyData.canLayAll0, PyData.canLay0, c], by simp [PyData.plainAll, PyData.plain, p], fun d hd => ?_⟩
    rcases List.mem_cons.mp hd with rfl | hd
    · trivial
    · exact f d hd
  | .none :: _, _, h => by cases h
  | .str _ :: _, _, h => by cases h
  | .list _ :: _, _, h => by cases h
  | .tuple _ :: _, _, h => by cases h
  | .dict _ :: _, _, h => by cases h
theorem b_an (hc : X.calm = true) : CB X (.builtin "any") anD .frz := by
  intro pins s σ H vs us Q I r h
  obtain ⟨ds, res, hd, hr, k⟩ := h
  unfold anD at hr
  split at hr
  · rename_i ds
    obtain ⟨bs, h1, rfl⟩ := Option.map_eq_some_iff.mp hr
    obtain ⟨e, cl, pl, ft⟩ := asTrus_ok h1
    have k := k (Sz.of I)
    obtain ⟨v, rfl, hv⟩ := hd.one_inv
    cases hv with
    | @lst a xs _ ha hb =>
      obtain ⟨u, rfl, ru⟩ := r.one
      cases ru
      obtain ⟨its, rv, hl, hz⟩ := I.list ha
      obtain ⟨as, ra⟩ := Dp.readsAll I ds xs its (RepAll.dp hb cl) rv
      refine PySem.W.any_list_data (I.ok.hd hc) hl.isList (by rw [List.toList_toArray]; exact ra) pl ft fun h' tk hk => ?_
      refine ⟨.bl (bs.any id), H, I.kept (t' := tk) fun b o z => hk b o z, ?_, k.val (.bl _)⟩
      rw [← e, List.any_map]
      rfl
  · cases hr
end
end Dn
namespace Lb
open PySem hiding Env
open Dn
variable [Wd]

theorem an_map {α : Type} (f : α → D) (g : α → Bool) : ∀ l : List α, (∀ a ∈ l, f a = .bool (g a) ∨ ∃ i : Int, f a = .int i ∧ g a = (i != 0)) → anD [.list (l.map f)] = some (.bool (l.any g)) := by
  intro l h
  have e : asTrus (l.map f) = some (l.map g) := by
    induction l with
    | nil => rfl
    | cons a l ih =>
      have ih := ih fun b hb => h b (List.mem_cons_of_mem _ hb)
      rw [List.map_cons, List.map_cons]
      rcases h a List.mem_cons_self with e | ⟨i, e, e2⟩
      · rw [e]
        show (asTrus (l.map f)).map (g a :: ·) = _
        rw [ih]
        rfl
      · rw [e, e2]
        show (asTrus (l.map f)).map ((i != 0) :: ·) = _
        rw [ih]
        rfl
  show (asTrus (l.map f)).map _ = _
  rw [e]
  show some (PyData.bool (List.any _ _)) = _
  rw [List.any_map]
  rfl
theorem an_bool {α : Type} (g : α → Bool) (l : List α) : anD [.list (l.map fun a => PyData.bool (g a))] = some (.bool (l.any g)) := an_map _ g l fun a _ => .inl rfl
end Lb
namespace Lb
open PySem hiding Env
open Dn
variable [Wd]

structure Sp8 where
  a : Int
  b : Int
  c : Int
  d : Int
  e : Int
  f : Int
  g : Int
  h : Int
  deriving DecidableEq
namespace Sp8
def rot (s : Sp8) : Sp8 := ⟨-s.h, s.a, s.b, s.c, s.d, s.e, s.f, s.g⟩
def add (s t : Sp8) : Sp8 := ⟨s.a + t.a, s.b + t.b, s.c + t.c, s.d + t.d, s.e + t.e, s.f + t.f, s.g + t.g, s.h + t.h⟩
def neg (s : Sp8) : Sp8 := ⟨-s.a, -s.b, -s.c, -s.d, -s.e, -s.f, -s.g, -s.h⟩
def z : Sp8 := ⟨0, 0, 0, 0, 0, 0, 0, 0⟩
def unit (n : Int) : Sp8 := ⟨n, 0, 0, 0, 0, 0, 0, 0⟩
def l (s : Sp8) : List Int := [s.a, s.b, s.c, s.d, s.e, s.f, s.g, s.h]
theorem ext' {s t : Sp8} (h1 : s.a = t.a) (h2 : s.b = t.b) (h3 : s.c = t.c) (h4 : s.d = t.d) (h5 : s.e = t.e) (h6 : s.f = t.f) (h7 : s.g = t.g) (h8 : s.h = t.h) : s = t := by
  cases s
  cases t
  simp only at h1 h2 h3 h4 h5 h6 h7 h8
  subst h1 h2 h3 h4 h5 h6 h7 h8
  rfl
theorem add_assoc (s t u : Sp8) : add (add s t) u = add s (add t u) := ext' (Int.add_assoc ..) (Int.add_assoc ..) (Int.add_assoc ..) (Int.add_assoc ..) (Int.add_assoc ..) (Int.add_assoc ..) (Int.add_assoc ..) (Int.add_assoc ..)
theorem add_comm (s t : Sp8) : add s t = add t s := ext' (Int.add_comm ..) (Int.add_comm ..) (Int.add_comm ..) (Int.add_comm ..) (Int.add_comm ..) (Int.add_comm ..) (Int.add_comm ..) (Int.add_comm ..)
theorem add_z (s : Sp8) : add s z = s := ext' (Int.add_zero _) (Int.add_zero _) (Int.add_zero _) (Int.add_zero _) (Int.add_zero _) (Int.add_zero _) (Int.add_zero _) (Int.add_zero _)
theorem z_add (s : Sp8) : add z s = s := by rw [add_comm, add_z]
theorem add_neg (s : Sp8) : add s (neg s) = z := ext' (Int.add_right_neg _) (Int.add_right_neg _) (Int.add_right_neg _) (Int.add_right_neg _) (Int.add_right_neg _) (Int.add_right_neg _) (Int.add_right_neg _) (Int.add_right_neg _)
theorem rot_add (s t : Sp8) : rot (add s t) = add (rot s) (rot t) := ext' Int.neg_add rfl rfl rfl rfl rfl rfl rfl
def rotN : Nat → Sp8 → Sp8
  | 0, s => s
  | n + 1, s => rotN n (rot s)
theorem rotN_rot : ∀ (n : Nat) (s : Sp8), rotN n (rot s) = rot (rotN n s)
  | 0, _ => rfl
  | n + 1, s => rotN_rot n (rot s)
theorem rotN_add : ∀ (m n : Nat) (s : Sp8), rotN (m + n) s = rotN m (rotN n s)
  | m, 0, _ => rfl
  | m, n + 1, s => rotN_add m n (rot s)
theorem rotN_8 (s : Sp8) : rotN 8 s = neg s := rfl
theorem rotN_16 (s : Sp8) : rotN 16 s = s := ext' (Int.neg_neg _) (Int.neg_neg _) (Int.neg_neg _) (Int.neg_neg _) (Int.neg_neg _) (Int.neg_neg _) (Int.neg_neg _) (Int.neg_neg _)
theorem rotN_mul : ∀ (k : Nat) (s : Sp8), rotN (16 * k) s = s
  | 0, _ => rfl
  | k + 1, s => by rw [Nat.mul_succ, rotN_add, rotN_16, rotN_mul k]
theorem rotN_mod (n : Nat) (s : Sp8) : rotN n s = rotN (n % 16) s := by
  conv => lhs; rw [← Nat.mod_add_div n 16]
  rw [rotN_add, rotN_mul]
theorem rotN_sadd : ∀ (n : Nat) (s t : Sp8), rotN n (add s t) = add (rotN n s) (rotN n t)
  | 0, _, _ => rfl
  | n + 1, s, t => by
    show rotN n (rot (add s t)) = _
    rw [rot_add, rotN_sadd n]
    rfl
theorem rotN_z : ∀ n : Nat, rotN n z = z
  | 0 => rfl
  | n + 1 => rotN_z n
end Sp8
open Sp8
def turn8 (k : Int) (s : Sp8) : Sp8 := Sp8.rotN (k % 16).toNat s
theorem turn8_turn (k j : Int) (s : Sp8) : turn8 k (turn8 j s) = turn8 (k + j) s := by
  unfold turn8
  rw [← Sp8.rotN_add, Sp8.rotN_mod]
  congr 1
  omega
theorem turn8_congr {k j : Int} (h : k % 16 = j % 16) (s : Sp8) : turn8 k s = turn8 j s := by
  unfold turn8
  rw [h]
theorem turn8_add (k : Int) (s t : Sp8) : turn8 k (Sp8.add s t) = Sp8.add (turn8 k s) (turn8 k t) := Sp8.rotN_sadd _ _ _
theorem turn8_z (k : Int) : turn8 k Sp8.z = Sp8.z := Sp8.rotN_z _
theorem turn8_0 (s : Sp8) : turn8 0 s = s := rfl
theorem turn8_8 (s : Sp8) : turn8 8 s = Sp8.neg s := rfl
def enc8 (s : Sp8) : D := .tuple (s.l.map .int)
inductive Kf where | hl | hr | l | r | s
  deriving DecidableEq
def Kf.d : Kf → D
  | .hl => .str "halfleft"
  | .hr => .str "halfright"
  | .l => .str "left"
  | .r => .str "right"
  | .s => .str "straight"
def Kf.t : Kf → Int
  | .hl => 1
  | .hr => -1
  | .l => 2
  | .r => -2
  | .s => 0
abbrev Pf := Kf × Int
def encF (p : Pf) : D := .tuple [p.1.d, .int p.2]
def encTf (t : List Pf) : D := .tuple (t.map encF)
/-- a piece's way, from heading h -/
def stepF (p : Pf) (h : Int) : Sp8 := if p.1 = .s then turn8 h (unit p.2) else
  Sp8.add (turn8 (h + if p.1.t > 0 then 4 else 12) (unit p.2)) (turn8 (h + p.1.t + if p.1.t > 0 then 4 else 12) (unit (-p.2)))
theorem stepF_turn (p : Pf) (h : Int) : stepF p h = turn8 h (stepF p 0) := by
  unfold stepF
  by_cases e : p.1 = .s
  · rw [if_pos e, if_pos e, turn8_turn, Int.add_zero]
  · rw [if_neg e, if_neg e, turn8_add, turn8_turn, turn8_turn]
    generalize (if p.1.t > 0 then (4 : Int) else 12) = c
    rw [show h + (0 + c) = h + c by omega, show h + (0 + p.1.t + c) = h + p.1.t + c by omega]
def tsF : List Pf → Int
  | [] => 0
  | p :: t => p.1.t + tsF t
def dpF : List Pf → Sp8
  | [] => Sp8.z
  | p :: t => Sp8.add (stepF p 0) (turn8 p.1.t (dpF t))
abbrev Pof := Sp8 × Int
def behF (q : Pof) (p : Pf) : Pof := (Sp8.add q.1 (stepF p q.2), (q.2 + p.1.t) % 16)
theorem goF_eq : ∀ (t : List Pf) (s : Sp8) (h : Int), 0 ≤ h → h < 16 → t.foldl behF (s, h) = (Sp8.add s (turn8 h (dpF t)), (h + tsF t) % 16)
  | [], s, h, h0, h1 => by
    show (s, h) = (Sp8.add s (turn8 h Sp8.z), (h + 0) % 16)
    rw [turn8_z, Sp8.add_z, Int.add_zero, Int.emod_eq_of_lt h0 h1]
  | p :: t, s, h, h0, h1 => by
    rw [List.foldl_cons]
    show t.foldl behF (Sp8.add s (stepF p h), (h + p.1.t) % 16) = _
    rw [goF_eq t _ _ (Int.emod_nonneg _ (by decide)) (Int.emod_lt_of_pos _ (by decide))]
    refine Prod.ext ?_ ?_
    · show Sp8.add (Sp8.add s (stepF p h)) (turn8 ((h + p.1.t) % 16) (dpF t)) = Sp8.add s (turn8 h (Sp8.add (stepF p 0) (turn8 p.1.t (dpF t))))
      rw [turn8_add, turn8_turn, ← stepF_turn, Sp8.add_assoc, turn8_congr (k := (h + p.1.t) % 16) (j := h + p.1.t) (by omega)]
    · show ((h + p.1.t) % 16 + tsF t) % 16 = (h + (p.1.t + tsF t)) % 16
      omega
theorem tsF_append : ∀ a b : List Pf, tsF (a ++ b) = tsF a + tsF b
  | [], b => (Int.zero_add _).symm
  | p :: a, b => by
    show p.1.t + tsF (a ++ b) = p.1.t + tsF a + tsF b
    rw [tsF_append a b]
    omega
theorem dpF_append : ∀ a b : List Pf, dpF (a ++ b) = Sp8.add (dpF a) (turn8 (tsF a) (dpF b))
  | [], b => by
    show dpF b = Sp8.add Sp8.z (turn8 0 (dpF b))
    rw [Sp8.z_add, turn8_0]
  | p :: a, b => by
    show Sp8.add (stepF p 0) (turn8 p.1.t (dpF (a ++ b))) = Sp8.add (Sp8.add (stepF p 0) (turn8 p.1.t (dpF a))) (turn8 (p.1.t + tsF a) (dpF b))
    rw [dpF_append a b, turn8_add, turn8_turn, Sp8.add_assoc]
/-- a track that comes back -/
def ClF (t : List Pf) : Prop := dpF t = Sp8.z ∧ tsF t % 16 = 0
end Lb
namespace Lb
open PySem hiding Env
open Dn
variable [Wd]

structure Gd (n : Nat) (d : D) : Prop where
  ok : Ok n d
  nb : nob d = true
theorem Gd.int {n : Nat} (i : Int) : Gd n (.int i) := ⟨.int i, rfl⟩
theorem Gd.str {n : Nat} {x : Str} (h : PyData.canLay0 (.str x) = true) : Gd n (.str x) := ⟨.str h, rfl⟩
theorem Gd.non {n : Nat} : Gd n .none := ⟨.non, rfl⟩
theorem Gd.tup {n : Nat} {ds : List D} (h : ∀ d ∈ ds, Gd n d) (hl : ds.length ≤ 16777216) : Gd (n + 1) (.tuple ds) := ⟨.tup (fun d hd => (h d hd).ok) hl, nob_all fun d hd => (h d hd).nb⟩
theorem Gd.lst {n : Nat} {ds : List D} (h : ∀ d ∈ ds, Gd n d) (hl : ds.length ≤ 16777216) : Gd (n + 1) (.list ds) := ⟨.lst (fun d hd => (h d hd).ok) hl, nob_all fun d hd => (h d hd).nb⟩
theorem Gd.up {n m : Nat} {d : D} (h : Gd n d) (hm : n ≤ m) : Gd m d := ⟨h.ok.up hm, h.nb⟩
theorem Gd.tmap {α : Type} {n : Nat} {enc : α → D} {l : List α} (h : ∀ a ∈ l, Gd n (enc a)) (hl : l.length ≤ 16777216) : Gd (n + 1) (.tuple (l.map enc)) := .tup (fun d hd => by
  obtain ⟨a, ha, rfl⟩ := List.mem_map.mp hd
  exact h a ha) (by rw [List.length_map]; exact hl)
theorem Gd.t1 {n : Nat} {a : D} (h1 : Gd n a) : Gd (n + 1) (.tuple [a]) := .tup (fun d hd => by
  simp only [List.mem_singleton] at hd; rw [hd]; exact h1) (by show 1 ≤ _; decide)
theorem Gd.t2 {n : Nat} {a b : D} (h1 : Gd n a) (h2 : Gd n b) : Gd (n + 1) (.tuple [a, b]) := .tup (fun d hd => by
  simp only [List.mem_cons, List.not_mem_nil, or_false] at hd
  rcases hd with rfl | rfl <;> assumption) (by show 2 ≤ _; decide)
theorem Gd.t3 {n : Nat} {a b c : D} (h1 : Gd n a) (h2 : Gd n b) (h3 : Gd n c) : Gd (n + 1) (.tuple [a, b, c]) := .tup (fun d hd => by
  simp only [List.mem_cons, List.not_mem_nil, or_false] at hd
  rcases hd with rfl | rfl | rfl <;> assumption) (by show 3 ≤ _; decide)
theorem Gd.nil {n : Nat} : Gd (n + 1) (.tuple []) := .tup (fun _ h => nomatch h) (by decide)
theorem Gd.ints {n : Nat} {l : List Int} (hl : l.length ≤ 16777216) : Gd (n + 1) (.tuple (l.map .int)) := .tmap (fun a _ => .int a) hl
theorem eqD_gd {d e : D} (hd : Gd 60 d) (he : Gd 60 e) : eqD d e = some (.bool (dq d e)) := eqD_data hd.ok he.ok hd.nb he.nb dq_iff.symm
theorem neD_gd {d e : D} (hd : Gd 60 d) (he : Gd 60 e) : neD d e = some (.bool (!dq d e)) := neD_data hd.ok he.ok hd.nb he.nb dq_iff.symm
theorem dq_of {d e : D} {p : Prop} [Decidable p] (h : d = e ↔ p) : dq d e = decide p := by
  rw [Bool.eq_iff_iff, dq_iff, decide_eq_true_iff]
  exact h
theorem map_inj {α : Type} {enc : α → D} (h : ∀ a b, enc a = enc b → a = b) : ∀ {l m : List α}, l.map enc = m.map enc → l = m
  | [], [], _ => rfl
  | [], _ :: _, h => by simp at h
  | _ :: _, [], h => by simp at h
  | p :: a, q :: b, e => by
    simp only [List.map_cons, List.cons.injEq] at e
    rw [h _ _ e.1, map_inj h e.2]
theorem tmap_inj {α : Type} {enc : α → D} (h : ∀ a b, enc a = enc b → a = b) {l m : List α} (e : PyData.tuple (l.map enc) = .tuple (m.map enc)) : l = m := by
  injection e with e
  exact map_inj h e
theorem int_inj (a b : Int) (h : PyData.int a = .int b) : a = b := by injection h
theorem tints_inj {l m : List Int} (e : PyData.tuple (l.map .int) = .tuple (m.map .int)) : l = m := tmap_inj (enc := .int) int_inj e
section
variable {α : Type} {enc : α → D} (im : ∀ a, immut (enc a) = true)
include im
end
theorem lenLm {α : Type} {enc : α → D} (l : List α) : lenD [.list (l.map enc)] = some (.int l.length) := by
  show some (PyData.int ((l.map enc).length : Nat)) = _
  rw [List.length_map]
end Lb
namespace Dn
open PySem PySem.Spec PyProof.Rows L2
variable [Wd]

def strD : List D → Option D
  | [.int i] => if i.natAbs.log2 < 1920 then some (.str (toString i)) else none
  | [.str x] => some (.str x)
  | _ => none
theorem b_str {X : Cx} : CB X (.type "str") strD .frz := by
  intro pins s σ H vs us Q I r h
  obtain ⟨ds, res, hd, hr, k⟩ := h
  have k := k (Sz.of I)
  unfold strD at hr
  split at hr
  · split at hr
    · rename_i hi
      cases hr
      obtain ⟨v, rfl, hv⟩ := hd.one_inv
      cases hv
      exact call_str_int pins s σ H _ us Q I r ⟨_, rfl, hi, k.val (.str _)⟩
    · cases hr
  · cases hr
    obtain ⟨v, rfl, hv⟩ := hd.one_inv
    cases hv
    exact SkE.call_str_str pins s σ H _ us Q I r ⟨_, rfl, k.val (.str _)⟩
  · cases hr
end Dn
namespace Dn
open PySem PySem.Spec PyProof.Rows L2
variable [Wd]
section
variable {X : Cx} {B : Addr → Prop} {S : Sc} {M M1 M2 M' N : MEnv} {e : Expr} {elts : List Expr} {m : Md} {w : Bool} {pos : Pos}
def zipM : List D → Option (List D)
  | [.list xs, .tuple ys] => some (List.zipWith prI xs ys)
  | _ => none
theorem zipM_inv {as ds : List D} (h : zipM as = some ds) : ∃ xs ys, ds = List.zipWith prI xs ys ∧ as = [.list xs, .tuple ys] := by
  unfold zipM at h
  split at h
  · cases h; exact ⟨_, _, rfl, rfl⟩
  · cases h
theorem walk_zipM {K : PySem.W.Frag} {a b : Addr} {xs ys : List V} {n : Nat} (hn : n = min xs.length ys.length) : L2.Walk (RZ.ItzN true false K a b) n (fun H => SqL K H a xs ∧ SqT K H b ys) (YPairN (fun i => xs[i]?) (fun i => ys[i]?)) := by
  subst hn
  refine ⟨fun i _ hi q => ?_, fun _ q => ⟨xs, ys, q.1, q.2, by omega⟩, fun i H v H' _ q y => ?_⟩
  · have h1 : i < xs.length := by omega
    have h2 : i < ys.length := by omega
    exact ⟨xs, ys, xs[i], ys[i], q.1, q.2, by simp [h1], by simp [h2]⟩
  · obtain ⟨T, x, z, h1, h2, h3, h4, h5⟩ := y
    exact ⟨T, x, z, h1, h2, h3, h4 xs q.1, h5 ys q.2⟩
theorem di_zipM {e2 : Expr} {fa : CA} {p tpos : Pos} {kk : Nat} (hst : stM m = true) (hg : Gl X "zip") (hm : X.mg "zip" = none) (ha : DA X B M w [e, e2] fa [m, m]) (hs : starEach [e, e2] X.env = (false, eval e X.env) :: starEach [e2] X.env) (hpl : (backTo pos (starEach [e2] X.env)).any (·.1) = false) :
    DI X B M w (.Tuple elts kk tpos) (.Call (.Name "zip" p) [e, e2] [] pos) (rgV zipM fa) m := by
  have hsz : PA X [e, e2] (fun σ H Q => TA' X.K B M w fa [m, m] σ H fun vs H' => Sz X.K H' → Q vs H') := ⟨fun ps pins s σ H Q I q => thn (ha.run ps pins s σ H _ I q) fun us s' ⟨vs, H', I', r, q'⟩ => ⟨vs, H', I', r, q' (Sz.of I')⟩⟩
  refine PI.mono (RZ.pi_zipN hg hm hsz hs hpl) fun σ H Rr h => ?_
  obtain ⟨δ, o, ds, δ', hR, hf, k⟩ := h
  obtain ⟨⟨as, δ1⟩, h1, hf⟩ := Option.bind_eq_some_iff.mp hf
  obtain ⟨ds', h2, hf⟩ := Option.bind_eq_some_iff.mp hf
  cases hf
  refine ⟨δ, o, as, _, hR, h1, fun vs H1 o1 k1 R1 s1 a1 sz => ?_⟩
  have lz : ∀ (xs ys : List D), (List.zipWith prI xs ys).length = min xs.length ys.length := fun xs ys => List.length_zipWith
  have gz : ∀ (xs ys : List D) (i : Nat) (x y : D), xs[i]? = some x → ys[i]? = some y → (List.zipWith prI xs ys)[i]? = some (prI x y) := fun xs ys i x y e1 e2 => by
    rw [List.getElem?_zipWith, e1, e2]
  obtain ⟨xs, ys, rfl, rfl⟩ := zipM_inv h2
  · cases a1 with
    | cons ra rb =>
      cases rb with
      | cons rb rn =>
        cases rn
        obtain ⟨a, vs, rfl, hl, hG, hY⟩ := RRep.stay R1 (ra.noP (q := noP) hst) (fun _ z => z.elim) (stM_wk hst)
        obtain ⟨b, us, rfl, hl2, hG2, hY2⟩ := RRep.stayT R1 (rb.noP (q := noP) hst) (stM_wk hst)
        have g0 := hG H1 (Kp.refl _ _ _)
        have g1 := hG2 H1 (Kp.refl _ _ _)
        have z1 := sz _ _ (.inl g0)
        refine ⟨true, false, a, b, vs, us, rfl, .inr (.inl ⟨rfl, rfl⟩), g0, g1, k _ H1 o1 (fun H => SqL X.K H a vs ∧ SqT X.K H b us) (YPairN (fun i => vs[i]?) fun i => us[i]?) k1 R1 s1 (by rw [lz]; omega) (walk_zipM (by rw [lz, hl, hl2])) (fun H2 k2 => ⟨hG H2 k2, hG2 H2 k2⟩) fun i H2 x H3 k2 y => ?_⟩
        obtain ⟨T, x, z, rfl, hT, ⟨its, rfl⟩, e1, e2⟩ := y
        obtain ⟨d, hd, rd⟩ := hY H2 k2 i x e1
        obtain ⟨d2, hd2, rd2⟩ := hY2 H2 k2 i z e2
        rw [stM_pt hst] at rd rd2
        exact ⟨_, gz _ _ _ _ _ hd hd2, Ext.new hT, RRep.pair hst hT rd rd2⟩
end
end Dn
namespace RE
open PySem PySem.Spec PyProof.Rows
end RE
namespace L2
open PySem PySem.Spec PyProof.Rows
section
variable {X : Cx}
end
end L2
namespace Dn
open PySem PySem.Spec PyProof.Rows L2
variable [Wd]

section
variable {X : Cx} {B : Addr → Prop} {S : Sc} {M M1 M2 M' N : MEnv} {a b c e tg iter : Expr} {es : List Expr} {f f1 f2 g : CE} {m ma mb mi : Md} {w w1 w2 wa wb : Bool} {pos px apos cpos : Pos} {i : Nat} {x : Str}
theorem PE.or {t1 t2 : TE} (h1 : PE X e t1) (h2 : PE X e t2) : PE X e (fun σ H Q => t1 σ H Q ∨ t2 σ H Q) := ⟨fun pins s σ H Q I q => q.elim (h1.run pins s σ H Q I) (h2.run pins s σ H Q I)⟩
end
end Dn
namespace L2
open PySem PySem.Spec PyProof.Rows
section
variable {X : Cx}
end
end L2
namespace Dn
open PySem PySem.Spec PyProof.Rows L2
variable [Wd]
section
variable {X : Cx} {B : Addr → Prop} {M : MEnv} {a : Expr} {f : CE} {m : Md} {w : Bool} {pos : Pos}
end
end Dn
namespace NS
open PySem PySem.Spec PyProof.Rows L2

section
variable {P : Program} {w : World} {κ : Type} [DecidableEq κ] {knd : HeapKind P w κ}
/-- keys of which no class statement has a say -/
structure Kd (knd : HeapKind P w κ) : Prop where
  oc : ∀ {A : Around} {E : Value → Shared → Prop} {s : Shared} {k : κ} {a : Addr} {Q : Bool → Shared → Prop}, knd.is s.heap k a → Q false s → wpAny (model P w) A (ofAClassStatement 8 (.ref a)) Q E s
  hb : ∀ {A : Around} {E : Value → Shared → Prop} {s : Shared} {k : κ} {a : Addr} {Q : Bool → Shared → Prop}, knd.is s.heap k a → (∀ b, Q b s) → wpAny (model P w) A (hashByValue 8 (.ref a)) Q E s
  kp : ∀ {h h' : Heap} {k : κ} {a : Addr}, knd.is h k a → (∀ b o, h.get? b = some o → h'.get? b = some o) → knd.is h' k a
  ks : ∀ {h h' : Heap} {k : κ} {a d : Addr} {o : Obj} {es : Array (Int × Value)} {ep : Nat} {t : SetTable}, knd.is h k a → h.get? d = some o → o.data = .set es ep t → Heap.SameBut d h h' → knd.is h' k a

abbrev Row (κ : Type) := Addr × κ
def rows (knd : HeapKind P w κ) (L : List (Row κ)) : List (Int × Value) := L.map fun p => (knd.hash p.2, Value.ref p.1)
def hs (knd : HeapKind P w κ) (L : List (Row κ)) : List Int := L.map fun p => knd.hash p.2
/-- the set at a holds the keys of L -/
structure NT (knd : HeapKind P w κ) (h : Heap) (a : Addr) (L : List (Row κ)) (es : Array (Int × Value)) (ep : Nat) (t : SetTable) : Prop where
  ob : ∃ o, h.get? a = some o ∧ o.ExactSet ∧ o.data = .set es ep t
  rw_ : es.toList = rows knd L
  tab : TabOk t (hs knd L)
  nd : (L.map (·.2)).Nodup
  ky : ∀ p ∈ L, knd.is h p.2 p.1
  led : w.params.followText "set-order" = true ∨ t.led = true
  room : L.length * 5 < t.mask * 3
  few : L.length < 64
variable {A : Around} {E : Value → Shared → Prop} {s : Shared} {a : Addr} {L : List (Row κ)} {es : Array (Int × Value)} {ep : Nat} {t : SetTable}
theorem rows_len (L : List (Row κ)) : (rows knd L).length = L.length := List.length_map ..
theorem hs_len (L : List (Row κ)) : (hs knd L).length = L.length := List.length_map ..
theorem size_of_rows {L : List (Row κ)} {es : Array (Int × Value)} (h : es.toList = rows knd L) : es.size = L.length := by
  rw [← Array.length_toList, h, rows_len]
theorem ent_of {L : List (Row κ)} {es : Array (Int × Value)} (h : es.toList = rows knd L) {i : Nat} {p : Row κ} (hp : L[i]? = some p) : es[i]? = some (knd.hash p.2, Value.ref p.1) := by
  rw [← Array.getElem?_toList, h]
  unfold rows
  rw [List.getElem?_map, hp]
  rfl
theorem fits_of {t : SetTable} {n : Nat} (h1 : t.place.size = n) (h2 : t.dummies = #[]) (h3 : n ≤ t.mask) : t.fits n = true := by
  unfold SetTable.fits SetTable.fill
  rw [h2, Bool.and_eq_true, beq_iff_eq, decide_eq_true_eq]
  exact ⟨h1, by show t.place.size + 0 ≤ _; omega⟩
theorem NT.place (R : NT knd s.heap a L es ep t) : t.place.size = L.length := by
  rw [R.tab.sz, hs_len]
theorem NT.fits (R : NT knd s.heap a L es ep t) : t.fits es.size = true := by
  have := R.room
  rw [size_of_rows R.rw_]
  exact fits_of R.place R.tab.dm (by omega)
theorem NT.gw (R : NT knd s.heap a L es ep t) : ¬ t.gaveWay = true := by
  unfold SetTable.gaveWay
  rw [mask_odd R.tab.mok]
  decide
/-- a search among such keys shows nothing -/
theorem seen (C : Kd knd) {k : κ} {b : Addr} {Q : Bool → Shared → Prop} (hk : knd.is s.heap k b) {ys : List Value} (hy : ∀ y ∈ ys, ∃ k' c, y = Value.ref c ∧ knd.is s.heap k' c) (h : Q false s) :
    wpAny (model P w) A (searchCouldBeSeen (.ref b) ys) Q E s := by
  unfold searchCouldBeSeen
  refine wpAny_bind (wpAny_forIn_list _ (fun rest r s' => r.1 = none ∧ s' = s ∧ ∀ y ∈ rest, ∃ k' c, y = Value.ref c ∧ knd.is s.heap k' c) _ ?_ ?_ _ _ ⟨rfl, rfl, hy⟩)
  · rintro v rest r s' ⟨hr, rfl, hall⟩
    obtain ⟨k', c, rfl, hc⟩ := hall v List.mem_cons_self
    have more : ∀ y ∈ rest, ∃ k' c, y = Value.ref c ∧ knd.is s'.heap k' c := fun u hu => hall u (List.mem_cons_of_mem _ hu)
    dsimp only
    by_cases hv : (b == c || (carriedByValue (.ref b) && carriedByValue (.ref c))) = true
    · exact wp_if_pos hv (wpAny_pure ⟨rfl, rfl, more⟩)
    · refine wp_if_neg hv (wpAny_bind (knd.quiet hk ?_))
      simp only [Bool.not_true, Bool.false_eq_true, if_false]
      refine wpAny_bind (knd.quiet hc ?_)
      simp only [Bool.not_true, Bool.false_eq_true, if_false]
      refine wpAny_bind (C.oc hk ?_)
      simp only [Bool.false_eq_true, if_false]
      refine wpAny_bind (C.oc hc ?_)
      simp only [Bool.false_eq_true, if_false]
      exact wpAny_pure ⟨rfl, rfl, more⟩
  · rintro ⟨r1, r2⟩ s' ⟨hr, rfl, _⟩
    simp only at hr
    subst hr
    exact wpAny_pure h
/-- the c-th probe for a hash -/
abbrev pb (m : Nat) (h : Int) (c : Nat) : SetTable.Probe := nth m (runAt m (SetTable.bits h % (m + 1)) (SetTable.bits h)) c
theorem pb_add (m : Nat) (h : Int) (c q : Nat) : nth m (pb m h c) q = pb m h (c + q) := (nth_add m c _ q).symm
theorem pb_j (m : Nat) (h : Int) (c q : Nat) : (nth m (pb m h c) q).j = way m h (c + q) := congrArg SetTable.Probe.j (pb_add m h c q)
theorem nth_dummy (m : Nat) : ∀ (n : Nat) (p : SetTable.Probe), p.dummy = none → (nth m p n).dummy = none
  | 0, _, h => h
  | n + 1, p, h => nth_dummy m n (adv m p) (by unfold adv; split <;> exact h)
/-- the search, from the c-th probe on -/
theorem search_go (C : Kd knd) (R : NT knd s.heap a L es ep t) {x : Addr} {k : κ} (hx : knd.is s.heap k x) (hu : knd.room A) {K : Nat} (hKf : K < 10 * SetTable.turns t.mask) (hK : way t.mask (knd.hash k) K ∉ t.place.toList) (hKb : ∀ c, c < K → way t.mask (knd.hash k) c ∈ t.place.toList) {Q : SetFound → Shared → Prop}
    (hin : k ∈ L.map (·.2) → Q (.there none) s) (hout : k ∉ L.map (·.2) → Q (.free (way t.mask (knd.hash k) K) false) s) :
    ∀ (f c : Nat) (stand : Option SetTable.Probe), stand.getD (t.probeStart (knd.hash k)) = pb t.mask (knd.hash k) c → c ≤ K → K - c < f → (∀ (i : Nat) p, L[i]? = some p → p.2 = k → ∃ c', c ≤ c' ∧ c' < K ∧ t.place.toList[i]? = some (way t.mask (knd.hash k) c')) →
      wpAny (model P w) A (setSearchFrom a (.ref x) (knd.hash k) true f stand) Q E s
  | 0, c, _, _, _, hf, _ => absurd hf (Nat.not_lt_zero _)
  | f + 1, c, stand, hst, hc, hf, hre => by
    obtain ⟨o, ho, hex, hd⟩ := R.ob
    rw [setSearchFrom_succ]
    refine wpAny_bind (wpAny_setState_of ho hd R.fits ?_)
    dsimp only
    refine wp_if_neg R.gw ?_
    try refine wpAny_bind (wpAny_pure ?_)
    have atH : ∀ (i : Nat) p, L[i]? = some p → (fun i => (es[i]?.map (·.1)).getD 0) i = knd.hash p.2 := fun i p hp => by
      show (es[i]?.map (·.1)).getD 0 = _
      rw [ent_of R.rw_ hp]
      rfl
    have spec := go_spec t R.tab.ris R.tab.dm (fun i => (es[i]?.map (·.1)).getD 0) (knd.hash k) (10 * SetTable.turns t.mask) (K - c) (pb t.mask (knd.hash k) c) (nth_dummy _ c _ rfl) (by omega) (fun q hq => by rw [pb_j]; exact hKb (c + q) (by omega)) (by rw [pb_j, show c + (K - c) = K by omega]; exact hK)
    rcases spec with ⟨q, i, hq, hi, hh, hno, hpr⟩ | ⟨hno, hpr⟩
    · rw [pb_j] at hi
      rw [pb_j, pb_add] at hpr
      have pr : t.probe (fun i => (es[i]?.map (·.1)).getD 0) (knd.hash k) (stand.getD (t.probeStart (knd.hash k))) = some (.candidate (way t.mask (knd.hash k) (c + q)) i (pb t.mask (knd.hash k) (c + (q + 1)))) := by
        rw [hst]
        exact hpr
      rw [pr]
      dsimp only
      have hil : i < L.length := by
        have h1 := (List.getElem?_eq_some_iff.mp hi).1
        rw [Array.length_toList, R.place] at h1
        exact h1
      obtain ⟨p, hp⟩ : ∃ p, L[i]? = some p := ⟨_, List.getElem?_eq_getElem hil⟩
      have hmem : p ∈ L := List.mem_of_getElem? hp
      have live : t.slot (way t.mask (knd.hash k) (c + q)) = .live i := slot_live R.tab.ris hi
      have rest : wpAny (model P w) A (searchRest a (.ref x) (knd.hash k) true f es t (way t.mask (knd.hash k) (c + q)) i (pb t.mask (knd.hash k) (c + (q + 1)))) Q E s := by
        unfold searchRest
        rw [ent_of R.rw_ hp]
        dsimp only
        refine wpAny_bind (wpAny_holding (knd.eqBool hu (R.ky p hmem) hx ?_))
        refine wpAny_bind (wpAny_setState_of ho hd R.fits ?_)
        dsimp only
        by_cases e : p.2 = k
        · exact wp_if_pos (by simp [e]) (wpAny_pure (hin (List.mem_map.mpr ⟨p, hmem, e⟩)))
        · refine wp_if_neg (by simp [e]) ?_
          try refine wpAny_bind (wpAny_pure ?_)
          rw [sameMem]
          dsimp only
          simp only [if_true, live, ent_of R.rw_ hp]
          refine wpAny_bind (wpAny_isSame_ref_self (wpAny_bind (wpAny_pure ?_)))
          simp only [if_true]
          refine wp_if_neg (by simp [e]) ?_
          refine search_go C R hx hu hKf hK hKb hin hout f (c + (q + 1)) _ rfl (by omega) (by omega) fun i0 p0 h0 hk0 => ?_
          obtain ⟨c', a1, a2, a3⟩ := hre i0 p0 h0 hk0
          refine ⟨c', Nat.lt_of_not_le fun z => ?_, a2, a3⟩
          have z : c' ≤ c + q := z
          by_cases y : c' = c + q
          · rw [y] at a3
            have s0 := slot_live R.tab.ris a3
            rw [live] at s0
            injection s0 with s0
            rw [← s0, hp] at h0
            exact e ((congrArg Prod.snd (Option.some.inj h0)).trans hk0)
          · refine hno (c' - c) i0 (by omega) (by rw [pb_j, show c + (c' - c) = c' by omega]; exact a3) ?_
            exact (atH i0 p0 h0).trans (congrArg knd.hash hk0)
      by_cases hl : t.led = true
      · refine wp_if_neg (by simp [hl]) ?_
        try refine wpAny_bind (wpAny_pure ?_)
        exact rest
      · refine wp_if_pos (by simp [hl]) ?_
        refine wpAny_bind (seen C hx (fun y hy => ?_) ?_)
        · obtain ⟨e, he, rfl⟩ := List.mem_map.mp hy
          have he1 : e ∈ es ∧ e.1 = knd.hash k := by simpa using he
          have he2 : e ∈ es.toList := by simpa using he1.1
          rw [R.rw_] at he2
          obtain ⟨p2, hp2, rfl⟩ := List.mem_map.mp he2
          exact ⟨p2.2, p2.1, rfl, R.ky p2 hp2⟩
        · refine wp_if_neg (by decide) ?_
          try refine wpAny_bind (wpAny_pure ?_)
          exact rest
    · rw [pb_j, show c + (K - c) = K by omega] at hpr
      have pr : t.probe (fun i => (es[i]?.map (·.1)).getD 0) (knd.hash k) (stand.getD (t.probeStart (knd.hash k))) = some (.empty (way t.mask (knd.hash k) K) none) := by
        rw [hst]
        exact hpr
      rw [pr]
      dsimp only
      refine wpAny_pure (hout fun hm => ?_)
      obtain ⟨p0, h0, hk0⟩ := List.mem_map.mp hm
      obtain ⟨i0, hi0, e0⟩ := List.getElem_of_mem h0
      have h00 : L[i0]? = some p0 := by rw [List.getElem?_eq_getElem hi0, e0]
      obtain ⟨c', a1, a2, a3⟩ := hre i0 p0 h00 hk0
      refine hno (c' - c) i0 (by omega) (by rw [pb_j, show c + (c' - c) = c' by omega]; exact a3) ?_
      exact (atH i0 p0 h00).trans (congrArg knd.hash hk0)
theorem search (C : Kd knd) (R : NT knd s.heap a L es ep t) {x : Addr} {k : κ} (hx : knd.is s.heap k x) (hu : knd.room A) {Q : SetFound → Shared → Prop} (hin : k ∈ L.map (·.2) → Q (.there none) s)
    (hout : ∀ K, k ∉ L.map (·.2) → way t.mask (knd.hash k) K ∉ t.place.toList → (∀ c, c < K → way t.mask (knd.hash k) c ∈ t.place.toList) → Q (.free (way t.mask (knd.hash k) K) false) s) :
    wpAny (model P w) A (setSearch a (.ref x) (knd.hash k) true) Q E s := by
  have hroom := R.room
  obtain ⟨K, hKf, hK, hKb⟩ := R.tab.first (by rw [hs_len]; omega) (knd.hash k)
  have big : 10 * SetTable.turns t.mask ≤ 1420 := by
    unfold SetTable.turns
    rcases R.tab.mok with e | e | e <;> omega
  unfold setSearch
  refine search_go C R hx hu hKf hK hKb hin (fun hn => hout K hn hK hKb) 100000 0 none rfl (Nat.zero_le _) (by omega) fun i p hp hk => ?_
  have hi : (hs knd L)[i]? = some (knd.hash k) := by
    unfold hs
    rw [List.getElem?_map, hp, ← hk]
    rfl
  have hil : i < t.place.toList.length := by
    have := (List.getElem?_eq_some_iff.mp hp).1
    rw [Array.length_toList, R.place]
    exact this
  obtain ⟨c, hc, e⟩ := R.tab.before hK hi (List.getElem?_eq_getElem hil)
  exact ⟨c, Nat.zero_le _, hc, by rw [List.getElem?_eq_getElem hil, e]⟩
end
end NS
namespace NS
open PySem PySem.Spec PyProof.Rows L2

section
variable {P : Program} {w : World} {κ : Type} [DecidableEq κ] {knd : HeapKind P w κ} {A : Around} {E : Value → Shared → Prop} {s : Shared} {a : Addr} {L : List (Row κ)} {es : Array (Int × Value)} {ep : Nat} {t : SetTable}
theorem rows_ins (L : List (Row κ)) (p : Nat) (x : Addr) (k : κ) : rows knd (L.take p ++ (x, k) :: L.drop p) = (rows knd L).take p ++ (knd.hash k, Value.ref x) :: (rows knd L).drop p := by
  unfold rows
  rw [List.map_append, List.map_cons, List.map_take, List.map_drop]
theorem hs_ins (L : List (Row κ)) (p : Nat) (x : Addr) (k : κ) : hs knd (L.take p ++ (x, k) :: L.drop p) = (hs knd L).take p ++ knd.hash k :: (hs knd L).drop p := by
  unfold hs
  rw [List.map_append, List.map_cons, List.map_take, List.map_drop]
/-- the rows in another order -/
theorem picked (L : List (Row κ)) {es : Array (Int × Value)} (hr : es.toList = rows knd L) : ∀ l : List Nat, (∀ i ∈ l, i < L.length) → l.filterMap (fun i => es[i]?) = rows knd (l.filterMap fun i => L[i]?) ∧ hs knd (l.filterMap fun i => L[i]?) = l.map fun i => (es.map (·.1)).getD i 0
  | [], _ => ⟨rfl, rfl⟩
  | i :: l, hl => by
    have hi := hl i List.mem_cons_self
    have hL : L[i]? = some L[i] := List.getElem?_eq_getElem hi
    have he := ent_of hr hL
    obtain ⟨e1, e2⟩ := picked L hr l fun j hj => hl j (List.mem_cons_of_mem _ hj)
    rw [List.filterMap_cons_some he, List.filterMap_cons_some hL, e1]
    refine ⟨rfl, ?_⟩
    have e4 : (es.map (·.1)).getD i 0 = knd.hash (L[i]).2 := by
      have e5 : (es.map (·.1))[i]? = some (knd.hash (L[i]).2) := by rw [Array.getElem?_map, he]; rfl
      simp [Array.getD_eq_getD_getElem?, e5]
    rw [List.map_cons, e4, ← e2]
    rfl
theorem pick_all {α : Type} (L : List α) : (List.range L.length).filterMap (fun i => L[i]?) = L := by
  have go : ∀ n, n ≤ L.length → (List.range n).filterMap (fun i => L[i]?) = L.take n := by
    intro n
    induction n with
    | zero => exact fun _ => rfl
    | succ n ih =>
      intro hn
      rw [List.range_succ, List.filterMap_append, ih (by omega), List.take_succ, List.getElem?_eq_getElem hn, List.filterMap_cons_some (List.getElem?_eq_getElem hn)]
      rfl
  rw [go _ (Nat.le_refl _), List.take_length]
/-- a larger table -/
theorem relay (C : Kd knd) {o : Obj} (ho : s.heap.get? a = some o) (hex : o.ExactSet) (hd : o.data = .set es ep t) (hr : es.toList = rows knd L) (hsz : t.place.size = L.length) (hdm : t.dummies = #[]) (hfl : L.length ≤ t.mask) (nd : (L.map (·.2)).Nodup) (ky : ∀ p ∈ L, knd.is s.heap p.2 p.1) (ld : w.params.followText "set-order" = true ∨ t.led = true) (few : L.length < 64) {wanted M : Nat}
    (hw : SetTable.sizeAbove wanted - 1 = M) (hM : MaskOk M) (hw2 : SetTable.sizeAbove wanted ≤ 128) (hn : L.length * 5 < M * 3) {Q : Unit → Shared → Prop}
    (hQ : ∀ h' L' es' ep' t', Heap.SameBut a s.heap h' → NT knd h' a L' es' ep' t' → L'.Perm L → Q () { s with heap := h' }) : wpAny (model P w) A (setRelay a wanted) Q E s := by
  have hsl := size_of_rows hr
  have hfits : t.fits es.size = true := by rw [hsl]; exact fits_of hsz hdm hfl
  obtain ⟨t', order, e, hp, T, em, el, _, ed⟩ := relaid_ok t (hs := es.map (·.1)) (wanted := wanted) hw hM (by rw [Array.size_map, hsl]; omega)
  rw [Array.size_map, hsl] at hp
  obtain ⟨r1, r3⟩ := picked L hr order.toList fun i hi => List.mem_range.mp (hp.mem_iff.mp hi)
  have r2 : (order.toList.filterMap fun i => L[i]?).Perm L := by
    have := hp.filterMap (fun i => L[i]?)
    rwa [pick_all] at this
  generalize order.toList.filterMap (fun i => L[i]?) = L2 at r1 r2 r3
  have r1' : (order.filterMap (es[·]?)).toList = rows knd L2 := by first | (rw [Array.toList_filterMap]; exact r1) | simpa using r1
  rw [← r3] at T
  have hs2 := size_of_rows r1'
  have n2 := r2.length_eq
  rw [setRelay_eq]
  refine wpAny_bind (wpAny_setState_of ho hd hfits ?_)
  dsimp only
  refine wp_if_neg (by rw [sizeLine_eq]; omega) ?_
  try refine wpAny_bind (wpAny_pure ?_)
  rw [e]
  dsimp only
  refine wpAny_bind (wp_if_neg (by rw [hs2, hsl, n2]; simp) ?_)
  try refine wpAny_bind (wpAny_pure ?_)
  refine wpAny_pure ?_
  dsimp only
  refine wpAny_storeSet_of ho hd ?_ (by rw [hs2, n2, sizeLine_eq]; omega)
  have sb : Heap.SameBut a s.heap (s.heap.update a (Obj.putSet (order.filterMap (es[·]?)) t')) := Heap.SameBut.update ..
  refine hQ _ L2 (order.filterMap (es[·]?)) (ep + 1) t' sb ⟨⟨_, store_at ho hd, ⟨hex.1, hex.2.1, hex.2.2⟩, rfl⟩, r1', T, (r2.map (·.2)).nodup_iff.mpr nd, fun p hpm => C.ks (ky p (r2.mem_iff.mp hpm)) ho hd sb, by rw [el]; exact ld, by rw [n2, em]; exact hn, by rw [n2]; exact few⟩ r2
/-- one more -/
theorem add (C : Kd knd) (R : NT knd s.heap a L es ep t) {x : Addr} {k : κ} (hx : knd.is s.heap k x) (hu : knd.room A) (hfew : L.length + 1 < 64) {Q : Bool → Shared → Prop}
    (hQ : ∀ b h' L' es' ep' t', Heap.SameBut a s.heap h' → NT knd h' a L' es' ep' t' → (k ∈ L.map (·.2) → L' = L) → (k ∉ L.map (·.2) → L'.Perm ((x, k) :: L)) → Q b { s with heap := h' }) :
    wpAny (model P w) A (setAddHashed a (.ref x) (knd.hash k)) Q E s := by
  obtain ⟨o, ho, hex, hd⟩ := R.ob
  have hsl := size_of_rows R.rw_
  have hroom := R.room
  unfold setAddHashed
  refine wpAny_holding ?_
  rw [show (100000 : Nat) = 99999 + 1 from rfl, setAddHashedIn_succ]
  refine wpAny_bind (wpAny_setState_of ho hd R.fits ?_)
  dsimp only
  refine wp_if_neg (by simp [byScan, Value.scannable]) ?_
  try refine wpAny_bind (wpAny_pure ?_)
  refine wpAny_bind (search C R hx hu (fun hm => ?_) fun K hm hK hb => ?_)
  · exact wpAny_pure (hQ false s.heap L es ep t (Heap.SameBut.refl a s.heap) R (fun _ => rfl) fun z => absurd hm z)
  · dsimp only
    refine wpAny_bind (wpAny_setState_of ho hd R.fits ?_)
    dsimp only
    obtain ⟨q1, q2, q3, q4, q5, q6, q7, q8, q9⟩ := R.tab.put hK hb
    generalize t.put (way t.mask (knd.hash k) K) = pt at q1 q3 q4 q5 q6 q7 q8 q9 ⊢
    obtain ⟨t1, p⟩ := pt
    dsimp only at q1 q3 q4 q5 q6 q7 q8 q9 ⊢
    subst q1
    have L1e : ∃ L1, L1 = L.take (SetTable.below t.place (way t.mask (knd.hash k) K)) ++ (x, k) :: L.drop (SetTable.below t.place (way t.mask (knd.hash k) K)) := ⟨_, rfl⟩
    obtain ⟨L1, hL1⟩ := L1e
    have pm : L1.Perm ((x, k) :: L) := by rw [hL1]; exact put_perm L _ (x, k)
    have hlen : L1.length = L.length + 1 := pm.length_eq
    have hin : (SetTable.insertAt es (SetTable.below t.place (way t.mask (knd.hash k) K)) (knd.hash k, Value.ref x)).toList = rows knd L1 := by
      rw [SetTable.toList_insertAt, hL1, rows_ins, R.rw_]
    have hq3 : TabOk t1 (hs knd L1) := by
      rw [hL1, hs_ins]
      exact q3
    generalize SetTable.insertAt es (SetTable.below t.place (way t.mask (knd.hash k) K)) (knd.hash k, Value.ref x) = es1 at hin ⊢
    have hes : es1.size = L.length + 1 := (size_of_rows hin).trans hlen
    have nd1 : (L1.map (·.2)).Nodup := (pm.map (·.2)).nodup_iff.mpr (by rw [List.map_cons]; exact List.nodup_cons.mpr ⟨hm, R.nd⟩)
    have ld1 : w.params.followText "set-order" = true ∨ t1.led = true := by rw [q5]; exact R.led
    have full : t1.tooFull = decide ((L.length + 1) * 5 ≥ t1.mask * 3) := by
      unfold SetTable.tooFull
      rw [q9, hs_len]
    -- behind the question of plainness
    have go : ∀ t2 : SetTable, (t2 = t1 ∨ t2 = { t1 with plain := false }) → wpAny (model P w) A (do
        storeSet a es1 t2
        if !false && t2.tooFull then setRelay a (SetTable.grown (es.size + 1))
        return true) Q E s := by
      intro t2 ht2
      have tab2 : TabOk t2 (hs knd L1) := by
        rcases ht2 with rfl | rfl
        · exact hq3
        · exact ⟨hq3.ris, hq3.dm, hq3.sz, hq3.mok, hq3.bd, hq3.reach⟩
      have ld2 : w.params.followText "set-order" = true ∨ t2.led = true := by rcases ht2 with rfl | rfl <;> exact ld1
      have m2 : t2.mask = t1.mask := by rcases ht2 with rfl | rfl <;> rfl
      have f2 : t2.tooFull = t1.tooFull := by rcases ht2 with rfl | rfl <;> rfl
      refine wpAny_bind (wpAny_storeSet_of ho hd ?_ (by rw [hes, sizeLine_eq]; omega))
      have sb : Heap.SameBut a s.heap (s.heap.update a (Obj.putSet es1 t2)) := Heap.SameBut.update ..
      have ho1 := store_at (es' := es1) (t' := t2) ho hd
      generalize s.heap.update a (Obj.putSet es1 t2) = h1 at sb ho1 ⊢
      have ky1 : ∀ p ∈ L1, knd.is h1 p.2 p.1 := fun p hp => by
        rcases List.mem_cons.mp (pm.mem_iff.mp hp) with e | hp
        · rw [e]; exact C.ks hx ho hd sb
        · exact C.ks (R.ky p hp) ho hd sb
      by_cases hf : t1.tooFull = true
      · have hfull : (L.length + 1) * 5 ≥ t1.mask * 3 := by rw [full] at hf; exact of_decide_eq_true hf
        have two : (t1.mask = 7 ∧ L.length = 4) ∨ (t1.mask = 31 ∧ L.length = 18) := by
          rcases R.tab.mok with e | e | e
          · left; rw [q4, e] at hfull ⊢; rw [e] at hroom; exact ⟨rfl, by omega⟩
          · right; rw [q4, e] at hfull ⊢; rw [e] at hroom; exact ⟨rfl, by omega⟩
          · exfalso; rw [q4, e] at hfull; omega
        have relays : ∀ M, SetTable.sizeAbove (SetTable.grown (L.length + 1)) - 1 = M → MaskOk M → SetTable.sizeAbove (SetTable.grown (L.length + 1)) ≤ 128 → (L.length + 1) * 5 < M * 3 → wpAny (model P w) A (setRelay a (SetTable.grown (L.length + 1))) (fun _ s' => wpAny (model P w) A (pure true) Q E s') E { s with heap := h1 } := fun M m1 m2' m3 m4 => by
          refine relay (s := { s with heap := h1 }) C ho1 ⟨hex.1, hex.2.1, hex.2.2⟩ rfl hin (by rw [tab2.sz, hs_len]) tab2.dm (by rw [m2]; rcases two with ⟨e, e2⟩ | ⟨e, e2⟩ <;> omega) nd1 ky1 ld2 (by omega) m1 m2' m3 (by rw [hlen]; exact m4) ?_
          intro h2 L2 es2 ep2 t3 sb2 R2 pm2
          exact wpAny_pure (hQ true h2 L2 es2 ep2 t3 (sb.trans sb2) R2 (fun z => absurd z hm) fun _ => pm2.trans pm)
        rw [hsl]
        first
          | refine wpAny_bind (wp_if_pos (by simp [f2, hf]) ?_)
          | refine wp_if_pos (by simp [f2, hf]) (wpAny_bind ?_)
        rcases two with ⟨_, e2⟩ | ⟨_, e2⟩
        · exact relays 31 (by rw [e2, size_20]) (.inr (.inl rfl)) (by rw [e2, size_20]; decide) (by omega)
        · exact relays 127 (by rw [e2, size_76]) (.inr (.inr rfl)) (by rw [e2, size_76]; decide) (by omega)
      · first
          | refine wp_if_neg (by simp [f2, hf]) ?_
          | refine wpAny_bind (wp_if_neg (by simp [f2, hf]) (wpAny_pure ?_))
        refine wpAny_pure (hQ true h1 L1 es1 (ep + 1) t2 sb ⟨⟨_, ho1, ⟨hex.1, hex.2.1, hex.2.2⟩, rfl⟩, hin, tab2, nd1, ky1, ld2, ?_, by omega⟩ (fun z => absurd z hm) fun _ => pm)
        rw [full] at hf
        have := of_decide_eq_false (Bool.not_eq_true _ ▸ hf)
        rw [hlen, m2]
        omega
    by_cases pl : t1.plain = true
    · first
        | (refine wpAny_bind (wp_if_pos pl (C.hb hx fun b => ?_)); cases b)
        | (refine wp_if_pos pl (wpAny_bind (C.hb hx fun b => ?_)); cases b)
      · exact go _ (.inr rfl)
      · exact go _ (.inl rfl)
    · first
        | refine wpAny_bind (wp_if_neg pl (wpAny_pure ?_))
        | refine wp_if_neg pl (wpAny_bind (wpAny_pure ?_))
        | refine wp_if_neg pl ?_
      exact go _ (.inl rfl)
end
end NS
namespace NS
open PySem PySem.Spec PyProof.Rows L2

section
variable {P : Program} {w : World} {A : Around} {E : Value → Shared → Prop} {s : Shared}
/-- what holds the set S while items come: kept by what stands still, one more item added -/
structure Hold (P : Program) (w : World) (S : Addr) (n : Nat) (Pv : Nat → Value → Prop) (ok : Around → Prop) (J : Nat → Heap → Prop) : Prop where
  keep : ∀ {i : Nat} {h h' : Heap}, J i h → (∀ b o, h.get? b = some o → (b = S ∨ b < S) → h'.get? b = some o) → J i h'
  step : ∀ {A : Around} {E : Value → Shared → Prop} {i : Nat} {v : Value} {s : Shared} {Q : Bool → Shared → Prop}, ok A → i < n → Pv i v → J i s.heap → (∀ b h' tk, s.toks ≤ tk → Heap.SameBut S s.heap h' → J (i + 1) h' → Q b { s with heap := h', toks := tk }) → wpAny (model P w) A (setAdd S v) Q E s
theorem loop {I : Addr} {fp wr : List Addr} {G : Array GenState → Array GenState → Prop} {n : Nat} {Pv : Nat → Value → Prop} {St : Nat → Shared → Prop} {R : Result → Shared → Prop} {S : Addr} {ok : Around → Prop} {J : Nat → Heap → Prop}
    (W : WalksS P w A.in1 I fp wr G n Pv St) (hSf : S ∉ fp) (hw : ∀ b ∈ wr, S < b) (H : Hold P w S n Pv ok J) (hok : ok A.in1) :
    ∀ (k i : Nat) (s : Shared), n - i = k → i ≤ n → St i s → J i s.heap → (∀ s', Moved (S :: wr) G s s' → J n s'.heap → R (.ok (.ret .none)) s') → codeAny (model P w) A (.builtin "set.update.loop" ⟨[.ref S, .ref I], []⟩) R s := by
  have hsub : ∀ b ∈ wr, b ∈ S :: wr := fun b hb => List.mem_cons_of_mem _ hb
  have still : ∀ {i : Nat} {s s' : Shared}, Moved wr G s s' → J i s.heap → J i s'.heap := fun hm hj => H.keep hj fun b o e hb => hm.heap b o (fun z => hb.elim (fun q => Nat.lt_irrefl _ (q ▸ hw b z)) fun q => Nat.lt_asymm q (hw b z)) e
  intro k
  induction k with
  | zero =>
    intro i s hk hi hst hj hR
    have : i = n := by omega
    subst this
    refine codeAny_builtin F.entry_set_update_loop ?_
    rw [Around.under_plainId F.plain_set_update_loop _]
    show wpAny (model P w) A.in1 (pyNext (.ref I) >>= _) _ _ s
    refine wpAny_bind (W.done s _ _ hst fun s' hm => ?_)
    show wpAny (model P w) A.in1 (ret Value.none) _ _ s'
    exact wpAny_pure (hR s' (hm.mono hsub) (still hm hj))
  | succ k ih =>
    intro i s hk hi hst hj hR
    have hlt : i < n := by omega
    refine codeAny_builtin F.entry_set_update_loop ?_
    rw [Around.under_plainId F.plain_set_update_loop _]
    show wpAny (model P w) A.in1 (pyNext (.ref I) >>= _) _ _ s
    refine wpAny_bind (W.item i s _ _ hlt hst fun v s' hP hst' hm => ?_)
    show wpAny (model P w) A.in1 (holding [v] (setAdd S v) >>= _) _ _ s'
    refine wpAny_bind (wpAny_holding (H.step hok hlt hP (still hm hj) fun b h' tk htk hsb hj' => ?_))
    refine wpAny_pure ⟨plainId_quiet F.plain_set_update_loop _, ih (i + 1) _ (by omega) hlt (W.frame _ s' _ _ hst' htk fun b hb o e => ?_) hj' fun s'' hm'' hj'' => ?_⟩
    · rw [hsb.2 b (fun h : b = S => hSf (by rw [← h]; exact hb))]
      exact e
    · refine hR s'' (Moved.trans W.gtrans ((hm.mono hsub).then_heap htk fun b o hb e => ?_) hm'') hj''
      rw [hsb.2 b (fun h : b = S => hb (by rw [h]; exact List.mem_cons_self))]
      exact e
end
end NS
namespace NS
open PySem PySem.Spec PyProof.Rows L2

section
variable {P : Program} {w : World} {κ : Type} [DecidableEq κ] {knd : HeapKind P w κ} {s : Shared}
/-- what the set has of the first i rows -/
structure Got (knd : HeapKind P w κ) (h0 : Heap) (ks : List (Row κ)) (i : Nat) (h : Heap) : Prop where
  old : ∀ b o, h0.get? b = some o → h.get? b = some o
  set_ : ∃ L es ep t, NT knd h h0.objs.size L es ep t ∧ (∀ p ∈ L, p ∈ ks.take i) ∧ (∀ p ∈ ks.take i, p.2 ∈ L.map (·.2)) ∧ L.length ≤ i
theorem NT.stay (C : Kd knd) {h h' : Heap} {a : Addr} {L : List (Row κ)} {es : Array (Int × Value)} {ep : Nat} {t : SetTable} (R : NT knd h a L es ep t) (ha : ∀ o, h.get? a = some o → h'.get? a = some o) (hk : ∀ p ∈ L, knd.is h' p.2 p.1) : NT knd h' a L es ep t := by
  obtain ⟨o, ho, r⟩ := R.ob
  exact ⟨⟨o, ha o ho, r⟩, R.rw_, R.tab, R.nd, hk, R.led, R.room, R.few⟩
theorem hold (C : Kd knd) {h0 : Heap} {items : Array Value} (ks : List (Row κ)) (hit : items.toList = ks.map fun p => Value.ref p.1) (hk : ∀ p ∈ ks, knd.is h0 p.2 p.1) (hfew : ks.length < 64) : Hold P w h0.objs.size items.size (fun i v => items[i]? = some v) knd.room (Got knd h0 ks) where
  keep := fun {i h h'} g kp => by
    have old : ∀ b o, h0.get? b = some o → h'.get? b = some o := fun b o e => kp b o (g.old b o e) (.inr (Heap.lt_size e))
    obtain ⟨L, es, ep, t, R, g1, g2, g3⟩ := g.set_
    exact ⟨old, L, es, ep, t, R.stay C (fun o e => kp _ o e (.inl rfl)) fun p hp => C.kp (hk p (List.mem_of_mem_take (g1 p hp))) old, g1, g2, g3⟩
  step := fun {A E i v s Q} hu hi hv g hQ => by
    obtain ⟨L, es, ep, t, R, g1, g2, g3⟩ := g.set_
    obtain ⟨p, hp, rfl⟩ : ∃ p, ks[i]? = some p ∧ v = .ref p.1 := by
      rw [← Array.getElem?_toList, hit, List.getElem?_map] at hv
      cases e : ks[i]? with
      | none => rw [e] at hv; cases hv
      | some p => rw [e] at hv; exact ⟨p, rfl, (Option.some.inj hv).symm⟩
    have hx : knd.is s.heap p.2 p.1 := C.kp (hk p (List.mem_of_getElem? hp)) g.old
    have hil : i < ks.length := (List.getElem?_eq_some_iff.mp hp).1
    unfold setAdd
    refine wpAny_holding (wpAny_bind (knd.pyHash hu hx ?_))
    refine add (s := { s with toks := s.toks + knd.draws p.2 }) C R hx hu (by omega) fun b h' L' es' ep' t' sb R' c1 c2 => ?_
    have tk : ks.take (i + 1) = ks.take i ++ [p] := by rw [List.take_succ, hp]; rfl
    refine hQ b h' _ (Nat.le_add_right _ _) sb ⟨fun b o e => (sb.2 b (fun z => by rw [z] at e; exact Nat.lt_irrefl _ (Heap.lt_size e))).trans (g.old b o e), L', es', ep', t', R', ?_⟩
    by_cases hm : p.2 ∈ L.map (·.2)
    · rw [c1 hm, tk]
      refine ⟨fun q hq => List.mem_append_left _ (g1 q hq), fun q hq => ?_, by omega⟩
      rcases List.mem_append.mp hq with hq | hq
      · exact g2 q hq
      · rw [List.mem_singleton.mp hq]; exact hm
    · have pm := c2 hm
      rw [tk]
      refine ⟨fun q hq => ?_, fun q hq => ?_, by rw [pm.length_eq, List.length_cons]; omega⟩
      · rcases List.mem_cons.mp (pm.mem_iff.mp hq) with e | hq
        · rw [e]; exact List.mem_append_right _ List.mem_cons_self
        · exact List.mem_append_left _ (g1 q hq)
      · refine ((pm.map (·.2)).mem_iff).mpr ?_
        rw [List.map_cons]
        rcases List.mem_append.mp hq with hq | hq
        · exact List.mem_cons_of_mem _ (g2 q hq)
        · rw [List.mem_singleton.mp hq]; exact List.mem_cons_self
end
section
variable {P : Program} {w : World}
end
end NS
namespace Dn
open PySem PySem.Spec PyProof.Rows L2
variable [Wd]

section
variable {X : Cx} {pins : List (Addr × Obj)} {σ : L2.St} {H : Hp} {s : Shared}
end
end Dn
namespace NS
open PySem PySem.Spec PyProof.Rows L2
section
variable {P : Program} {w : World}
end
end NS
namespace Dn
open PySem PySem.Spec PyProof.Rows L2
variable [Wd]
section
variable {X : Cx} {pins : List (Addr × Obj)} {σ : L2.St} {H : Hp} {s : Shared}
end
section
variable {X : Cx} {B : Addr → Prop} {M : MEnv} {a : Expr} {f : CE} {m : Md} {w : Bool} {pos : Pos}
end
end Dn
namespace Dn
open PySem PySem.Spec PyProof.Rows L2
variable [Wd]
section
variable {X : Cx} {pins : List (Addr × Obj)} {σ : L2.St} {H : Hp} {s : Shared}
end
section
variable {X : Cx} {B : Addr → Prop} {M : MEnv} {a : Expr} {f : CE} {m : Md} {w : Bool} {pos : Pos}
end
end Dn
namespace Lb
open PySem hiding Env
open Dn
variable [Wd]

end Lb
namespace Dn
open PySem PySem.Spec PyProof.Rows L2
variable [Wd]

section
variable {X : Cx} {B : Addr → Prop} {S : Sc} {M M1 M2 M' N : MEnv} {elt tg iter tg1 iter1 : Expr} {ifs ifs1 : List Expr} {scope : Scope} {f : CE} {m mi mi1 : Md} {w wc wi wi1 wc1 we : Bool} {pos : Pos}
end
end Dn
namespace Dn
open PySem PySem.Spec PyProof.Rows L2
variable [Wd]
section
variable {X : Cx}
end
section
variable {X : Cx} {B : Addr → Prop} {M : MEnv} {e e2 : Expr} {f g : CE} {m ma mb : Md} {w w2 : Bool} {px apos cpos : Pos} {i : Nat} {x : Str}
end
end Dn
namespace Lb
open PySem Dn
noncomputable section

def den_is_whole : CS := (seqS (rtS (andV (isiW "int" (rd 0)) (c1 notD (isiW "bool" (rd 0))))) skip)
def F_is_whole := fnF den_is_whole 1 1
def den_is_number : CS := (seqS (rtS (andV (isiW "int" (rd 0)) (andV (c1 notD (isiW "bool" (rd 0))) (ch leD leD (rd 1) (rd 0) (rd 2))))) skip)
def F_is_number := fnF den_is_number 3 3
def den__law_bent (rec : List D → List D → Option (D × List D)) : CS := (seqS (ifS (andT (tst (isiW "tuple" (rd 1))) (andT (tstB (c2 gtD (cN lenD (aCons (rd 1) aNil)) (cst (.int 0)))) (tstB (c2 gtD (ioV 0 F__law_draw (aCons (cst (.int 5)) aNil)) (cst (.int 0)))))) (seqS (asgS (stS 2) (ioV 0 F__law_draw (aCons (cN lenD (aCons (rd 1) aNil)) aNil))) (seqS (rtS (c2 addD (c2 addD (slV (rd 1) noPt (ptOf (rd 2))) (tupV (aCons (ioV 0 rec (aCons (c2 ixD (rd 1) (rd 2)) aNil)) aNil))) (slV (rd 1) (ptOf (c2 addD (rd 2) (cst (.int 1)))) noPt))) skip)) skip) (seqS (asgS (stS 3) (ioV 0 F__law_draw (aCons (cst (.int 8)) aNil))) (seqS (ifS (tst (isiW "tuple" (rd 1))) (seqS (rtS (c2 ixD (lstV (aCons (c2 addD (rd 1) (slV (rd 1) noPt (ptOf (cst (.int 1))))) (aCons (slV (rd 1) (ptOf (cst (.int 1))) noPt) (aCons (rvV (rd 1)) (aCons (c2 addD (rd 1) (tupV (aCons (cst (.int 0)) aNil))) (aCons (tupV (aCons (rd 1) aNil)) (aCons (slV (rd 1) noPt (ptOf (c1 negD (cst (.int 1))))) (aCons (cst .none) (aCons (c2 addD (rd 1) (tupV (aCons (tupV (aCons (cst (.int 0)) (aCons (cst (.int 1)) aNil))) aNil))) aNil))))))))) (rd 3))) skip) skip) (seqS (ifS (andT (tst (isiW "int" (rd 1))) (notT (tst (isiW "bool" (rd 1))))) (seqS (rtS (c2 ixD (lstV (aCons (c2 addD (rd 1) (cst (.int 1))) (aCons (c2 subD (rd 1) (cst (.int 1))) (aCons (cst (.int 0)) (aCons (c2 eqD (rd 1) (cst (.int 1))) (aCons (cst .none) (aCons (cN strD (aCons (rd 1) aNil)) (aCons (tupV (aCons (rd 1) aNil)) (aCons (c2 addD (rd 1) (cst (.int 2))) aNil))))))))) (rd 3))) skip) skip) (seqS (ifS (tst (isiW "str" (rd 1))) (seqS (rtS (c2 ixD (lstV (aCons (c2 addD (rd 1) (cst (.str "s"))) (aCons (slV (rd 1) (ptOf (cst (.int 1))) noPt) (aCons (cst (.str "left")) (aCons (cst (.str "straight")) (aCons (cst (.int 0)) (aCons (cst .none) (aCons (cst (.str "")) (aCons (cst (.str "ring")) aNil))))))))) (rd 3))) skip) skip) (seqS (rtS (c2 ixD (lstV (aCons (cst (.int 0)) (aCons (cst (.int 1)) (aCons (cst .none) (aCons (cst (.bool true)) (aCons (cst (.str "a")) (aCons (tupV aNil) (aCons (tupV (aCons (cst (.int 0)) aNil)) (aCons (cst (.str "point")) aNil))))))))) (rd 3))) skip))))))
def F__law_bent : Nat → List D → List D → Option (D × List D)
  | 0 => fun _ _ => none
  | n + 1 => fnI (den__law_bent (F__law_bent n)) 4 2
end
end Lb
namespace Lb
open PySem hiding Env
open Dn
variable [Wd]

def isInt : D → Bool | .int _ => true | _ => false
def isTup : D → Bool | .tuple _ => true | _ => false
/-- a number from a to b -/
def inB (v : D) (a b : Int) : Bool := match v with
  | .int i => decide (a ≤ i) && decide (i ≤ b)
  | _ => false
theorem is_whole_eq {n : Nat} {d : D} (h : Ok n d) : F_is_whole [d] = some (.bool (isInt d)) := by
  cases h with
  | bl b => cases b <;> kernel_rfl
  | _ => kernel_rfl
theorem is_number_eq {n : Nat} {d : D} (h : Ok n d) (a b : Int) : F_is_number [d, .int a, .int b] = some (.bool (inB d a b)) := by
  cases h with
  | bl b => cases b <;> kernel_rfl
  | int i =>
    obtain ⟨r, e, rfl⟩ : ∃ r, F_is_number [.int i, .int a, .int b] = some r ∧ r = .bool (inB (.int i) a b) := by
      refine fn_any (δ0 := [some (.int i), some (.int a), some (.int b)]) rfl rfl ?_
      unfold den_is_number
      refine ws_rt (we_and (we_isi (we_rd rfl ⟨rfl, true, rfl, wb_t (we_and ?_)⟩)))
      refine we_c1 (we_isi (we_rd rfl ⟨rfl, wo_r (d := .bool true) rfl ⟨true, rfl, wb_t ?_⟩⟩))
      refine we_ch (we_rd rfl (we_rd rfl (wo_r (leD_int _ _) ⟨_, rfl, wb_cases (fun h => wb_t ?_) fun h => wb_f ?_⟩)))
      · refine we_rd rfl (wo_r (leD_int _ _) ⟨_, _, rfl, ?_⟩)
        unfold inB
        dsimp only
        rw [h, Bool.true_and]
      · refine ⟨_, _, rfl, ?_⟩
        unfold inB
        dsimp only
        rw [h, Bool.false_and]
    exact e
  | _ => kernel_rfl
def okB : Nat → D → Bool
  | _, .none => true
  | _, .bool _ => true
  | _, .int _ => true
  | _, .str x => PyData.canLay0 (.str x)
  | n + 1, .tuple ds => ds.all (okB n) && decide (ds.length ≤ 16777216)
  | _, _ => false
theorem okB_ok : ∀ (n : Nat) (d : D), okB n d = true → Ok n d ∧ immut d = true
  | _, .none, _ => ⟨.non, rfl⟩
  | _, .bool b, _ => ⟨.bl b, rfl⟩
  | _, .int i, _ => ⟨.int i, rfl⟩
  | n, .str x, h => ⟨.str (by cases n <;> exact h), rfl⟩
  | n + 1, .tuple ds, h => by
    have h2 : (ds.all (okB n) && decide (ds.length ≤ 16777216)) = true := h
    rw [Bool.and_eq_true, List.all_eq_true, decide_eq_true_iff] at h2
    exact ⟨.tup (fun d hd => (okB_ok n d (h2.1 d hd)).1) h2.2, imm_all fun d hd => (okB_ok n d (h2.1 d hd)).2⟩
  | 0, .tuple _, h => by cases h
  | 0, .list _, h => by cases h
  | _ + 1, .list _, h => by cases h
  | 0, .dict _, h => by cases h
  | _ + 1, .dict _, h => by cases h
theorem okB_up : ∀ (n : Nat) (d : D), okB n d = true → okB (n + 1) d = true
  | _, .none, _ => rfl
  | _, .bool b, _ => rfl
  | _, .int i, _ => rfl
  | n, .str x, h => by cases n <;> exact h
  | n + 1, .tuple ds, h => by
    have h2 : (ds.all (okB n) && decide (ds.length ≤ 16777216)) = true := h
    rw [Bool.and_eq_true, List.all_eq_true, decide_eq_true_iff] at h2
    show (ds.all (okB (n + 1)) && decide (ds.length ≤ 16777216)) = true
    rw [Bool.and_eq_true, List.all_eq_true, decide_eq_true_iff]
    exact ⟨fun d hd => okB_up n d (h2.1 d hd), h2.2⟩
  | 0, .tuple _, h => by cases h
  | 0, .list _, h => by cases h
  | _ + 1, .list _, h => by cases h
  | 0, .dict _, h => by cases h
  | _ + 1, .dict _, h => by cases h
theorem okB_tup {n : Nat} {ds : List D} (h : ∀ d ∈ ds, okB n d = true) (hl : ds.length ≤ 16777216) : okB (n + 1) (.tuple ds) = true := by
  show (ds.all (okB n) && decide (ds.length ≤ 16777216)) = true
  rw [Bool.and_eq_true, List.all_eq_true, decide_eq_true_iff]
  exact ⟨h, hl⟩
theorem imm_ok {n : Nat} {l : List D} (h : ∀ d ∈ l, okB n d = true) : immutAll l = true := imm_all fun d hd => (okB_ok n d (h d hd)).2
theorem cut_mem {ds : List D} {l u : Option Int} {d : D} (h : d ∈ cutD ds l u) : d ∈ ds := by
  unfold cutD at h
  exact List.mem_of_mem_drop (List.mem_of_mem_take h)
theorem cut_len (ds : List D) (l u : Option Int) : (cutD ds l u).length ≤ ds.length := by
  unfold cutD
  rw [List.length_take, List.length_drop]
  omega
theorem ix_any {l : List D} {i : Int} (h0 : 0 ≤ i) (h1 : i < l.length) : ∃ d ∈ l, ixD (.list l) (.int i) = some d := by
  obtain ⟨n, rfl⟩ : ∃ n : Nat, i = n := ⟨i.toNat, by omega⟩
  have hn : n < l.length := by omega
  exact ⟨l[n], List.getElem_mem hn, atI_nat (List.getElem?_eq_getElem hn)⟩
theorem addTu {a b : List D} (ha : immutAll a = true) (hb : immutAll b = true) (h : a.length + b.length ≤ 16777216) : addD (.tuple a) (.tuple b) = some (.tuple (a ++ b)) := by
  show (if (immutAll a && immutAll b) = true ∧ a.length + b.length ≤ sizeLine then some (PyData.tuple (a ++ b)) else none) = _
  rw [if_pos ⟨by rw [ha, hb]; rfl, h⟩]
theorem revTu {a : List D} (ha : immutAll a = true) : revD (.tuple a) = some (.tuple a.reverse) := by
  show (if immutAll a = true then some (PyData.tuple a.reverse) else none) = _
  rw [if_pos ha]
theorem str_ok (s : String) : PyData.canLay0 (.str (PySem.Str.ofString s)) = true := by
  have e : PyData.canLay0 (.str (PySem.Str.ofString s)) = (PySem.Str.ofString s).cps.all (· < 0x110000) := by
    simp only [PyData.canLay0, PyData.strOk]
  rw [e, PySem.Str.ofString_eq_toList]
  simp only [List.all_toArray, List.all_map, List.all_eq_true, Function.comp]
  intro c _
  have := c.valid
  rw [decide_eq_true_iff]
  show c.val.toNat < _
  unfold UInt32.isValidChar Nat.isValidChar at this
  omega
/-- what is bent: tuples of whole numbers, bools and None -/
def okI : Nat → D → Bool
  | _, .none => true
  | _, .bool _ => true
  | _, .int i => decide (i.natAbs < 2 ^ 100)
  | n + 1, .tuple ds => ds.all (okI n) && decide (ds.length ≤ 10000)
  | _, _ => false
theorem okI_B : ∀ (n : Nat) (d : D), okI n d = true → okB n d = true
  | n, .none, _ => by cases n <;> rfl
  | n, .bool b, _ => by cases n <;> rfl
  | n, .int i, _ => by cases n <;> rfl
  | n + 1, .tuple ds, h => by
    have h2 : (ds.all (okI n) && decide (ds.length ≤ 10000)) = true := h
    rw [Bool.and_eq_true, List.all_eq_true, decide_eq_true_iff] at h2
    exact okB_tup (fun d hd => okI_B n d (h2.1 d hd)) (by omega)
  | 0, .str _, h => by cases h
  | _ + 1, .str _, h => by cases h
  | 0, .tuple _, h => by cases h
  | 0, .list _, h => by cases h
  | _ + 1, .list _, h => by cases h
  | 0, .dict _, h => by cases h
  | _ + 1, .dict _, h => by cases h
theorem okI_inv {n : Nat} {ds : List D} (h : okI n (.tuple ds) = true) : ∃ m, n = m + 1 ∧ (∀ d ∈ ds, okI m d = true) ∧ ds.length ≤ 10000 := by
  cases n with
  | zero => cases h
  | succ m =>
    have h2 : (ds.all (okI m) && decide (ds.length ≤ 10000)) = true := h
    rw [Bool.and_eq_true, List.all_eq_true, decide_eq_true_iff] at h2
    exact ⟨m, rfl, h2⟩
theorem all8 {p : D → Prop} {a b c d e f g h : D} (h1 : p a) (h2 : p b) (h3 : p c) (h4 : p d) (h5 : p e) (h6 : p f) (h7 : p g) (h8 : p h) : ∀ x ∈ [a, b, c, d, e, f, g, h], p x := fun x hx => by
  simp only [List.mem_cons, List.not_mem_nil, or_false] at hx
  rcases hx with rfl | rfl | rfl | rfl | rfl | rfl | rfl | rfl <;> assumption
set_option maxHeartbeats 1000000 in
theorem bent_ev : ∀ (n : Nat) (v : D), okI n v = true → ∀ (k : Nat) (tp : List D), BoxOk tp → ∃ r tp', F__law_bent (n + 1 + k) tp [v] = some (r, tp') ∧ okB (n + 1) r = true ∧ BoxOk tp' := by
  intro n
  induction n with
  | zero =>
    intro v hv k tp ht
    rw [show 0 + 1 + k = k + 1 by omega]
    exact go 0 v hv k tp ht fun ds h => by rw [h] at hv; cases hv
  | succ n ih =>
    intro v hv k tp ht
    rw [show n + 1 + 1 + k = (n + 1 + k) + 1 by omega]
    exact go (n + 1) v hv (n + 1 + k) tp ht fun ds h tp ht i hi => by
      subst h
      obtain ⟨m, e, h1, _⟩ := okI_inv hv
      cases e
      exact ih _ (h1 _ (List.getElem_mem hi)) k tp ht
where
  go (n : Nat) (v : D) (hv : okI n v = true) (k : Nat) (tp : List D) (ht : BoxOk tp) (rec : ∀ ds, v = .tuple ds → ∀ tp, BoxOk tp → ∀ i (hi : i < ds.length), ∃ r tp', F__law_bent k tp [ds[i]] = some (r, tp') ∧ okB n r = true ∧ BoxOk tp') : ∃ r tp', F__law_bent (k + 1) tp [v] = some (r, tp') ∧ okB (n + 1) r = true ∧ BoxOk tp' := by
    have h := fnI_any (s := den__law_bent (F__law_bent k)) (n := 4) (m := 2) (ds0 := tp) (ds := [v]) (P := fun d l => okB (n + 1) d = true ∧ BoxOk l) (δ0 := [some (.list tp), some v, none, none]) rfl rfl (by
      unfold den__law_bent
      have z0 : okB (n + 1) (.int 0) = true := rfl
      have zn : okB (n + 1) .none = true := rfl
      have fin : ∀ (rows : List D) (tp : List D) (x2 : Option D) (i : Int), (∀ d ∈ rows, okB (n + 1) d = true) → rows.length = 8 → BoxOk tp → 0 ≤ i → i < 8 → ∀ (δ : Env), δ[0]? = some (some (.list tp)) → WO (ixD (.list rows) (.int i)) fun r => ∃ d δ', ∃ l, Fl.rt r δ = .rt d δ' ∧ δ'[0]? = some (some (.list l)) ∧ okB (n + 1) d = true ∧ BoxOk l := by
        intro rows tp x2 i hr h8 ht i0 i1 δ h0
        obtain ⟨d, hd, e⟩ := ix_any (l := rows) i0 (by omega)
        exact wo_r e ⟨_, _, _, rfl, h0, hr d hd, ht⟩
      have tail : ∀ tp, BoxOk tp → ∀ x2 : Option D, WS (seqS (asgS (stS 3) (ioV 0 F__law_draw (aCons (cst (.int 8)) aNil))) (seqS (ifS (tst (isiW "tuple" (rd 1))) (seqS (rtS (c2 ixD (lstV (aCons (c2 addD (rd 1) (slV (rd 1) noPt (ptOf (cst (.int 1))))) (aCons (slV (rd 1) (ptOf (cst (.int 1))) noPt) (aCons (rvV (rd 1)) (aCons (c2 addD (rd 1) (tupV (aCons (cst (.int 0)) aNil))) (aCons (tupV (aCons (rd 1) aNil)) (aCons (slV (rd 1) noPt (ptOf (c1 negD (cst (.int 1))))) (aCons (cst .none) (aCons (c2 addD (rd 1) (tupV (aCons (tupV (aCons (cst (.int 0)) (aCons (cst (.int 1)) aNil))) aNil))) aNil))))))))) (rd 3))) skip) skip) (seqS (ifS (andT (tst (isiW "int" (rd 1))) (notT (tst (isiW "bool" (rd 1))))) (seqS (rtS (c2 ixD (lstV (aCons (c2 addD (rd 1) (cst (.int 1))) (aCons (c2 subD (rd 1) (cst (.int 1))) (aCons (cst (.int 0)) (aCons (c2 eqD (rd 1) (cst (.int 1))) (aCons (cst .none) (aCons (cN strD (aCons (rd 1) aNil)) (aCons (tupV (aCons (rd 1) aNil)) (aCons (c2 addD (rd 1) (cst (.int 2))) aNil))))))))) (rd 3))) skip) skip) (seqS (ifS (tst (isiW "str" (rd 1))) (seqS (rtS (c2 ixD (lstV (aCons (c2 addD (rd 1) (cst (.str "s"))) (aCons (slV (rd 1) (ptOf (cst (.int 1))) noPt) (aCons (cst (.str "left")) (aCons (cst (.str "straight")) (aCons (cst (.int 0)) (aCons (cst .none) (aCons (cst (.str "")) (aCons (cst (.str "ring")) aNil))))))))) (rd 3))) skip) skip) (seqS (rtS (c2 ixD (lstV (aCons (cst (.int 0)) (aCons (cst (.int 1)) (aCons (cst .none) (aCons (cst (.bool true)) (aCons (cst (.str "a")) (aCons (tupV aNil) (aCons (tupV (aCons (cst (.int 0)) aNil)) (aCons (cst (.str "point")) aNil))))))))) (rd 3))) skip)))))
          [some (.list tp), some v, x2, none] (fun fl => ∃ d δ, ∃ l, fl = .rt d δ ∧ δ[0]? = some (some (.list l)) ∧ okB (n + 1) d = true ∧ BoxOk l) := by
        intro tp ht x2
        refine ws_asg ?_
        refine we_draw rfl ht (by decide) (by decide) (fun p tp p0 p1 ht => ?_) rfl
        refine wg_set rfl ?_
        try dsimp only [List.set_cons_succ, List.set_cons_zero]
        have lastly : noDic v = true → isiB "tuple" v = false → (isiB "int" v = false ∨ isiB "bool" v = true) → isiB "str" v = false → WS (seqS (ifS (tst (isiW "tuple" (rd 1))) (seqS (rtS (c2 ixD (lstV (aCons (c2 addD (rd 1) (slV (rd 1) noPt (ptOf (cst (.int 1))))) (aCons (slV (rd 1) (ptOf (cst (.int 1))) noPt) (aCons (rvV (rd 1)) (aCons (c2 addD (rd 1) (tupV (aCons (cst (.int 0)) aNil))) (aCons (tupV (aCons (rd 1) aNil)) (aCons (slV (rd 1) noPt (ptOf (c1 negD (cst (.int 1))))) (aCons (cst .none) (aCons (c2 addD (rd 1) (tupV (aCons (tupV (aCons (cst (.int 0)) (aCons (cst (.int 1)) aNil))) aNil))) aNil))))))))) (rd 3))) skip) skip) (seqS (ifS (andT (tst (isiW "int" (rd 1))) (notT (tst (isiW "bool" (rd 1))))) (seqS (rtS (c2 ixD (lstV (aCons (c2 addD (rd 1) (cst (.int 1))) (aCons (c2 subD (rd 1) (cst (.int 1))) (aCons (cst (.int 0)) (aCons (c2 eqD (rd 1) (cst (.int 1))) (aCons (cst .none) (aCons (cN strD (aCons (rd 1) aNil)) (aCons (tupV (aCons (rd 1) aNil)) (aCons (c2 addD (rd 1) (cst (.int 2))) aNil))))))))) (rd 3))) skip) skip) (seqS (ifS (tst (isiW "str" (rd 1))) (seqS (rtS (c2 ixD (lstV (aCons (c2 addD (rd 1) (cst (.str "s"))) (aCons (slV (rd 1) (ptOf (cst (.int 1))) noPt) (aCons (cst (.str "left")) (aCons (cst (.str "straight")) (aCons (cst (.int 0)) (aCons (cst .none) (aCons (cst (.str "")) (aCons (cst (.str "ring")) aNil))))))))) (rd 3))) skip) skip) (seqS (rtS (c2 ixD (lstV (aCons (cst (.int 0)) (aCons (cst (.int 1)) (aCons (cst .none) (aCons (cst (.bool true)) (aCons (cst (.str "a")) (aCons (tupV aNil) (aCons (tupV (aCons (cst (.int 0)) aNil)) (aCons (cst (.str "point")) aNil))))))))) (rd 3))) skip))))
            [some (.list tp), some v, x2, some (.int p)] (fun fl => ∃ d δ, ∃ l, fl = .rt d δ ∧ δ[0]? = some (some (.list l)) ∧ okB (n + 1) d = true ∧ BoxOk l) := by
          intro nd t1 t2 t3
          refine ws_if (wt_v (we_isi (we_rd rfl ⟨nd, false, by rw [t1]; rfl, wb_f (ws_skip ?_)⟩)))
          have nx : WS (seqS (ifS (tst (isiW "str" (rd 1))) (seqS (rtS (c2 ixD (lstV (aCons (c2 addD (rd 1) (cst (.str "s"))) (aCons (slV (rd 1) (ptOf (cst (.int 1))) noPt) (aCons (cst (.str "left")) (aCons (cst (.str "straight")) (aCons (cst (.int 0)) (aCons (cst .none) (aCons (cst (.str "")) (aCons (cst (.str "ring")) aNil))))))))) (rd 3))) skip) skip) (seqS (rtS (c2 ixD (lstV (aCons (cst (.int 0)) (aCons (cst (.int 1)) (aCons (cst .none) (aCons (cst (.bool true)) (aCons (cst (.str "a")) (aCons (tupV aNil) (aCons (tupV (aCons (cst (.int 0)) aNil)) (aCons (cst (.str "point")) aNil))))))))) (rd 3))) skip))
              [some (.list tp), some v, x2, some (.int p)] (fun fl => ∃ d δ, ∃ l, fl = .rt d δ ∧ δ[0]? = some (some (.list l)) ∧ okB (n + 1) d = true ∧ BoxOk l) := by
            refine ws_if (wt_v (we_isi (we_rd rfl ⟨nd, false, by rw [t3]; rfl, wb_f (ws_skip ?_)⟩)))
            refine ws_rt (we_c2 (we_lst ?_))
            repeat (first | with_reducible refine ws_assoc ?_ | with_reducible refine ws_asg ?_ | with_reducible refine ws_rt ?_ | with_reducible refine ws_skip ?_ | refine wg_set rfl ?_ | refine wg_tup rfl ?_ | with_reducible refine wgs_cons ?_ | with_reducible refine wgs_nil ?_ | with_reducible refine ws_par2 ?_ | with_reducible refine ws_par3 ?_ | refine ws_aug rfl ?_ | refine we_rd rfl ?_ | with_reducible refine we_cst ?_ | with_reducible refine we_c2 ?_ | with_reducible refine we_c1 ?_ | with_reducible refine we_c3 ?_ | with_reducible refine we_call ?_ | with_reducible refine wa_nil ?_ | with_reducible refine wa_cons ?_ | with_reducible refine we_tup ?_ | with_reducible refine we_lst ?_ | with_reducible refine we_ifV ?_ | with_reducible refine we_sl ?_ | with_reducible refine wp_no ?_ | with_reducible refine wt_b ?_ | with_reducible refine wt_v ?_ | with_reducible refine wt_not ?_ | with_reducible refine wt_and ?_ | with_reducible refine wt_or ?_ | with_reducible refine wt_yes ?_ | with_reducible refine wb_t ?_ | with_reducible refine wb_f ?_ | with_reducible refine wb_nt ?_ | with_reducible refine wb_nf ?_ | with_reducible refine we_rv ?_ | with_reducible refine we_ch ?_ | with_reducible refine wa_seq ?_ | with_reducible refine wa_it ?_ | with_reducible refine wa_rg ?_ | with_reducible refine wp_of ?_ | with_reducible refine we_and ?_ | with_reducible refine we_or ?_ | with_reducible refine wo_r (addD_int _ _) ?_ | with_reducible refine wo_r (subD_int _ _) ?_ | with_reducible refine wo_r (negD_int _) ?_ | with_reducible refine wo_r (iaddD_int _ _) ?_ | with_reducible refine wo_r (ixL0 _ _ ) ?_ | with_reducible refine wo_r (ixL1 _ _ _ ) ?_ | with_reducible refine wo_r (ixL2 _ _ _ _ ) ?_ | with_reducible refine wo_r (ixL3 _ _ _ _ _ ) ?_ | with_reducible refine wo_r (ixT0 _ _ ) ?_ | with_reducible refine wo_r (ixT1 _ _ _ ) ?_ | with_reducible refine wo_r (ixT2 _ _ _ _ ) ?_ | with_reducible refine wo_r (ixT3 _ _ _ _ _ ) ?_ | refine Exists.intro _ (And.intro rfl ?_) | exact Exists.intro _ rfl | dsimp only [List.set_cons_succ, List.set_cons_zero])
            refine fin _ tp x2 p (all8 rfl rfl rfl rfl (by cases n <;> exact str_ok "a") rfl (by cases n <;> rfl) (by cases n <;> exact str_ok "point")) rfl ht p0 p1 _ rfl
          rcases t2 with t2 | t2
          · exact ws_if (wt_and (wt_v (we_isi (we_rd rfl ⟨nd, false, by rw [t2]; rfl, wb_f (wb_f (ws_skip nx))⟩))))
          · cases v with
            | bool b => exact ws_if (wt_and (wt_v (we_isi (we_rd rfl ⟨rfl, true, rfl, wb_t (wt_not (wt_v (we_isi (we_rd rfl ⟨rfl, true, rfl, wb_nt (ws_skip nx)⟩))))⟩))))
            | _ => cases t2
        cases v with
        | none => exact lastly rfl rfl (.inl rfl) rfl
        | bool b => exact lastly rfl rfl (.inr rfl) rfl
        | int i =>
          have hi : i.natAbs < 2 ^ 100 := by cases n <;> exact of_decide_eq_true hv
          have hs : strD [.int i] = some (.str (PySem.Str.ofString (toString i))) := by
            show (if i.natAbs.log2 < 1920 then _ else _) = _
            rw [if_pos]
            exact Nat.lt_of_lt_of_le (PySem.Flt.log2_lt_of (by decide) hi) (by decide)
          refine ws_if (wt_v (we_isi (we_rd rfl ⟨rfl, false, rfl, wb_f (ws_skip ?_)⟩)))
          refine ws_if (wt_and (wt_v (we_isi (we_rd rfl ⟨rfl, true, rfl, wb_t (wt_not (wt_v (we_isi (we_rd rfl ⟨rfl, false, rfl, wb_nf ?_⟩))))⟩))))
          refine ws_assoc (ws_rt (we_c2 (we_lst ?_)))
          repeat (first | with_reducible refine ws_assoc ?_ | with_reducible refine ws_asg ?_ | with_reducible refine ws_rt ?_ | with_reducible refine ws_skip ?_ | refine wg_set rfl ?_ | refine wg_tup rfl ?_ | with_reducible refine wgs_cons ?_ | with_reducible refine wgs_nil ?_ | with_reducible refine ws_par2 ?_ | with_reducible refine ws_par3 ?_ | refine ws_aug rfl ?_ | refine we_rd rfl ?_ | with_reducible refine we_cst ?_ | with_reducible refine we_c2 ?_ | with_reducible refine we_c1 ?_ | with_reducible refine we_c3 ?_ | with_reducible refine we_call ?_ | with_reducible refine wa_nil ?_ | with_reducible refine wa_cons ?_ | with_reducible refine we_tup ?_ | with_reducible refine we_lst ?_ | with_reducible refine we_ifV ?_ | with_reducible refine we_sl ?_ | with_reducible refine wp_no ?_ | with_reducible refine wt_b ?_ | with_reducible refine wt_v ?_ | with_reducible refine wt_not ?_ | with_reducible refine wt_and ?_ | with_reducible refine wt_or ?_ | with_reducible refine wt_yes ?_ | with_reducible refine wb_t ?_ | with_reducible refine wb_f ?_ | with_reducible refine wb_nt ?_ | with_reducible refine wb_nf ?_ | with_reducible refine we_rv ?_ | with_reducible refine we_ch ?_ | with_reducible refine wa_seq ?_ | with_reducible refine wa_it ?_ | with_reducible refine wa_rg ?_ | with_reducible refine wp_of ?_ | with_reducible refine we_and ?_ | with_reducible refine we_or ?_ | with_reducible refine wo_r (addD_int _ _) ?_ | with_reducible refine wo_r (subD_int _ _) ?_ | with_reducible refine wo_r (negD_int _) ?_ | with_reducible refine wo_r (iaddD_int _ _) ?_ | with_reducible refine wo_r (ixL0 _ _ ) ?_ | with_reducible refine wo_r (ixL1 _ _ _ ) ?_ | with_reducible refine wo_r (ixL2 _ _ _ _ ) ?_ | with_reducible refine wo_r (ixL3 _ _ _ _ _ ) ?_ | with_reducible refine wo_r (ixT0 _ _ ) ?_ | with_reducible refine wo_r (ixT1 _ _ _ ) ?_ | with_reducible refine wo_r (ixT2 _ _ _ _ ) ?_ | with_reducible refine wo_r (ixT3 _ _ _ _ _ ) ?_ | with_reducible refine wo_r (eqD_int i 1) ?_ | with_reducible refine wf_r (hs) ?_ | refine Exists.intro _ (And.intro rfl ?_) | exact Exists.intro _ rfl | dsimp only [List.set_cons_succ, List.set_cons_zero])
          exact fin _ tp x2 p (all8 rfl rfl rfl rfl rfl (by cases n <;> exact str_ok _) (by cases n <;> rfl) rfl) rfl ht p0 p1 _ rfl
        | tuple vs =>
          obtain ⟨m, rfl, h1, h2⟩ := okI_inv hv
          have hvs : ∀ d ∈ vs, okB m d = true := fun d hd => okI_B m d (h1 d hd)
          have hvs1 : ∀ d ∈ vs, okB (m + 1) d = true := fun d hd => okB_up m d (hvs d hd)
          have hi : immutAll vs = true := imm_ok hvs
          refine ws_if (wt_v (we_isi (we_rd rfl ⟨rfl, true, rfl, wb_t ?_⟩)))
          have s1 : slD (.tuple vs) none (some 1) = some (.tuple (cutD vs none (some 1))) := slD_tuple hi
          have s2 : slD (.tuple vs) (some 1) none = some (.tuple (cutD vs (some 1) none)) := slD_tuple hi
          have s3 : slD (.tuple vs) none (some (-1)) = some (.tuple (cutD vs none (some (-1)))) := slD_tuple hi
          have c1' := cut_len vs none (some 1)
          have c2' := cut_len vs (some 1) none
          have c3' := cut_len vs none (some (-1))
          have i1 : immutAll (cutD vs none (some 1)) = true := imm_ok fun d hd => hvs d (cut_mem hd)
          have a1 : addD (.tuple vs) (.tuple (cutD vs none (some 1))) = some (.tuple (vs ++ cutD vs none (some 1))) := addTu hi i1 (by omega)
          have a2 : addD (.tuple vs) (.tuple [.int 0]) = some (.tuple (vs ++ [.int 0])) := addTu hi rfl (by simp; omega)
          have a3 : addD (.tuple vs) (.tuple [.tuple [.int 0, .int 1]]) = some (.tuple (vs ++ [.tuple [.int 0, .int 1]])) := addTu hi rfl (by simp; omega)
          have ng1 : negD (.int 1) = some (.int (-1)) := rfl
          refine ws_assoc (ws_rt (we_c2 (we_lst ?_)))
          repeat (first | with_reducible refine ws_assoc ?_ | with_reducible refine ws_asg ?_ | with_reducible refine ws_rt ?_ | with_reducible refine ws_skip ?_ | refine wg_set rfl ?_ | refine wg_tup rfl ?_ | with_reducible refine wgs_cons ?_ | with_reducible refine wgs_nil ?_ | with_reducible refine ws_par2 ?_ | with_reducible refine ws_par3 ?_ | refine ws_aug rfl ?_ | refine we_rd rfl ?_ | with_reducible refine we_cst ?_ | with_reducible refine we_c2 ?_ | with_reducible refine we_c1 ?_ | with_reducible refine we_c3 ?_ | with_reducible refine we_call ?_ | with_reducible refine wa_nil ?_ | with_reducible refine wa_cons ?_ | with_reducible refine we_tup ?_ | with_reducible refine we_lst ?_ | with_reducible refine we_ifV ?_ | with_reducible refine we_sl ?_ | with_reducible refine wp_no ?_ | with_reducible refine wt_b ?_ | with_reducible refine wt_v ?_ | with_reducible refine wt_not ?_ | with_reducible refine wt_and ?_ | with_reducible refine wt_or ?_ | with_reducible refine wt_yes ?_ | with_reducible refine wb_t ?_ | with_reducible refine wb_f ?_ | with_reducible refine wb_nt ?_ | with_reducible refine wb_nf ?_ | with_reducible refine we_rv ?_ | with_reducible refine we_ch ?_ | with_reducible refine wa_seq ?_ | with_reducible refine wa_it ?_ | with_reducible refine wa_rg ?_ | with_reducible refine wp_of ?_ | with_reducible refine we_and ?_ | with_reducible refine we_or ?_ | with_reducible refine wo_r (addD_int _ _) ?_ | with_reducible refine wo_r (subD_int _ _) ?_ | with_reducible refine wo_r (negD_int _) ?_ | with_reducible refine wo_r (iaddD_int _ _) ?_ | with_reducible refine wo_r (ixL0 _ _ ) ?_ | with_reducible refine wo_r (ixL1 _ _ _ ) ?_ | with_reducible refine wo_r (ixL2 _ _ _ _ ) ?_ | with_reducible refine wo_r (ixL3 _ _ _ _ _ ) ?_ | with_reducible refine wo_r (ixT0 _ _ ) ?_ | with_reducible refine wo_r (ixT1 _ _ _ ) ?_ | with_reducible refine wo_r (ixT2 _ _ _ _ ) ?_ | with_reducible refine wo_r (ixT3 _ _ _ _ _ ) ?_ | with_reducible refine wo_r (s1) ?_ | with_reducible refine wo_r (s2) ?_ | with_reducible refine wo_r (s3) ?_ | with_reducible refine wo_r (a1) ?_ | with_reducible refine wo_r (a2) ?_ | with_reducible refine wo_r (a3) ?_ | with_reducible refine wo_r (revTu hi) ?_ | with_reducible refine wo_r (ng1) ?_ | refine Exists.intro _ (And.intro rfl ?_) | exact Exists.intro _ rfl | dsimp only [List.set_cons_succ, List.set_cons_zero])
          refine fin _ tp x2 p (all8 ?_ ?_ ?_ ?_ ?_ ?_ rfl ?_) rfl ht p0 p1 _ rfl
          · refine okB_tup (fun d hd => ?_) (by rw [List.length_append]; omega)
            rcases List.mem_append.mp hd with h | h
            · exact hvs1 d h
            · exact hvs1 d (cut_mem h)
          · exact okB_tup (fun d hd => hvs1 d (cut_mem hd)) (by omega)
          · exact okB_tup (fun d hd => hvs1 d (List.mem_reverse.mp hd)) (by rw [List.length_reverse]; omega)
          · refine okB_tup (fun d hd => ?_) (by rw [List.length_append]; simp; omega)
            rcases List.mem_append.mp hd with h | h
            · exact hvs1 d h
            · rw [List.mem_singleton.mp h]; rfl
          · refine okB_tup (fun d hd => ?_) (by simp)
            rw [List.mem_singleton.mp hd]
            exact okB_tup hvs (by omega)
          · exact okB_tup (fun d hd => hvs1 d (cut_mem hd)) (by omega)
          · refine okB_tup (fun d hd => ?_) (by rw [List.length_append]; simp; omega)
            rcases List.mem_append.mp hd with h | h
            · exact hvs1 d h
            · rw [List.mem_singleton.mp h]
              cases m <;> rfl
        | str x => cases n <;> cases hv
        | list l => cases n <;> cases hv
        | dict l => cases n <;> cases hv
      cases v with
      | tuple vs =>
        obtain ⟨m, rfl, h1, h2⟩ := okI_inv hv
        have hvs : ∀ d ∈ vs, okB m d = true := fun d hd => okI_B m d (h1 d hd)
        have hi : immutAll vs = true := imm_ok hvs
        refine ws_if (wt_and (wt_v (we_isi (we_rd rfl ⟨rfl, true, rfl, wb_t ?_⟩))))
        refine wt_and (wt_b (we_c2 (we_call (wa_cons (we_rd rfl (wa_nil (wf_r (lenTu vs) (we_cst (wo_r (gtD_int _ _) ⟨_, rfl, ?_⟩)))))))))
        by_cases h0 : 0 < vs.length
        · refine wb_of (c := true) (decide_eq_true (by omega)) (wb_t ?_)
          refine wt_b (we_c2 ?_)
          refine we_draw rfl ht (by decide) (by decide) (fun d tp d0 d1 ht => ?_) rfl
          refine we_cst (wo_r (gtD_int _ _) ⟨_, rfl, ?_⟩)
          by_cases hd : 0 < d
          · refine wb_of (c := true) (decide_eq_true hd) (wb_t (ws_assoc (ws_asg ?_)))
            refine we_draw (n := (vs.length : Nat)) rfl ht (by omega) (by omega) (fun j tp j0 j1 ht => ?_) (aCons_ev (cN_ev (ds := [.tuple vs]) rfl (lenTu vs)) rfl)
            obtain ⟨j, rfl⟩ : ∃ n : Nat, j = n := ⟨j.toNat, by omega⟩
            have hj : j < vs.length := by omega
            refine wg_set rfl ?_
            try dsimp only [List.set_cons_succ, List.set_cons_zero]
            have t1 : slD (.tuple vs) none (some (j : Int)) = some (.tuple (vs.take j)) := by rw [slD_tuple hi, cut_take]
            have t2 : slD (.tuple vs) (some ((j : Int) + 1)) none = some (.tuple (vs.drop (j + 1))) := by
              rw [show ((j : Int) + 1) = ((j + 1 : Nat) : Int) by omega, slD_tuple hi, cut_drop]
            have l1 : (vs.take j).length ≤ 10000 := by rw [List.length_take]; omega
            have l2 : (vs.drop (j + 1)).length ≤ 10000 := by rw [List.length_drop]; omega
            have ix : ixD (.tuple vs) (.int (j : Nat)) = some vs[j] := atI_nat (List.getElem?_eq_getElem hj)
            obtain ⟨r, tp', er, hr, ht'⟩ := rec vs rfl tp ht j hj
            have i1 : immutAll (vs.take j) = true := imm_ok fun d hd => hvs d (List.mem_of_mem_take hd)
            have i2 : immutAll (vs.drop (j + 1)) = true := imm_ok fun d hd => hvs d (List.mem_of_mem_drop hd)
            have i3 : immutAll [r] = true := imm_ok fun d hd => by rw [List.mem_singleton.mp hd]; exact hr
            have i4 : immutAll (vs.take j ++ [r]) = true := imm_ok (n := m + 1) fun d hd => by
              rcases List.mem_append.mp hd with h | h
              · exact okB_up m d (hvs d (List.mem_of_mem_take h))
              · rw [List.mem_singleton.mp h]; exact hr
            have a1 : addD (.tuple (vs.take j)) (.tuple [r]) = some (.tuple (vs.take j ++ [r])) := addTu i1 i3 (by simp; omega)
            have a2 : addD (.tuple (vs.take j ++ [r])) (.tuple (vs.drop (j + 1))) = some (.tuple (vs.take j ++ [r] ++ vs.drop (j + 1))) := addTu i4 i2 (by rw [List.length_append, List.length_singleton]; omega)
            refine ws_assoc (ws_rt (we_c2 (we_c2 ?_)))
            repeat (first | with_reducible refine ws_assoc ?_ | with_reducible refine ws_asg ?_ | with_reducible refine ws_rt ?_ | with_reducible refine ws_skip ?_ | refine wg_set rfl ?_ | refine wg_tup rfl ?_ | with_reducible refine wgs_cons ?_ | with_reducible refine wgs_nil ?_ | with_reducible refine ws_par2 ?_ | with_reducible refine ws_par3 ?_ | refine ws_aug rfl ?_ | refine we_rd rfl ?_ | with_reducible refine we_cst ?_ | with_reducible refine we_c2 ?_ | with_reducible refine we_c1 ?_ | with_reducible refine we_c3 ?_ | with_reducible refine we_call ?_ | with_reducible refine wa_nil ?_ | with_reducible refine wa_cons ?_ | with_reducible refine we_tup ?_ | with_reducible refine we_lst ?_ | with_reducible refine we_ifV ?_ | with_reducible refine we_sl ?_ | with_reducible refine wp_no ?_ | with_reducible refine wt_b ?_ | with_reducible refine wt_v ?_ | with_reducible refine wt_not ?_ | with_reducible refine wt_and ?_ | with_reducible refine wt_or ?_ | with_reducible refine wt_yes ?_ | with_reducible refine wb_t ?_ | with_reducible refine wb_f ?_ | with_reducible refine wb_nt ?_ | with_reducible refine wb_nf ?_ | with_reducible refine we_rv ?_ | with_reducible refine we_ch ?_ | with_reducible refine wa_seq ?_ | with_reducible refine wa_it ?_ | with_reducible refine wa_rg ?_ | with_reducible refine wp_of ?_ | with_reducible refine we_and ?_ | with_reducible refine we_or ?_ | with_reducible refine wo_r (addD_int _ _) ?_ | with_reducible refine wo_r (subD_int _ _) ?_ | with_reducible refine wo_r (negD_int _) ?_ | with_reducible refine wo_r (iaddD_int _ _) ?_ | with_reducible refine wo_r (ixL0 _ _ ) ?_ | with_reducible refine wo_r (ixL1 _ _ _ ) ?_ | with_reducible refine wo_r (ixL2 _ _ _ _ ) ?_ | with_reducible refine wo_r (ixL3 _ _ _ _ _ ) ?_ | with_reducible refine wo_r (ixT0 _ _ ) ?_ | with_reducible refine wo_r (ixT1 _ _ _ ) ?_ | with_reducible refine wo_r (ixT2 _ _ _ _ ) ?_ | with_reducible refine wo_r (ixT3 _ _ _ _ _ ) ?_ | with_reducible refine wo_r (t1) ?_ | refine Exists.intro _ (And.intro rfl ?_) | exact Exists.intro _ rfl | dsimp only [List.set_cons_succ, List.set_cons_zero])
            refine we_io rfl (wa_cons (we_c2 (we_rd rfl (we_rd rfl (wo_r ix (wa_nil ⟨_, _, _, rfl, er, ?_⟩))))))
            try dsimp only [List.set_cons_succ, List.set_cons_zero]
            repeat (first | with_reducible refine ws_assoc ?_ | with_reducible refine ws_asg ?_ | with_reducible refine ws_rt ?_ | with_reducible refine ws_skip ?_ | refine wg_set rfl ?_ | refine wg_tup rfl ?_ | with_reducible refine wgs_cons ?_ | with_reducible refine wgs_nil ?_ | with_reducible refine ws_par2 ?_ | with_reducible refine ws_par3 ?_ | refine ws_aug rfl ?_ | refine we_rd rfl ?_ | with_reducible refine we_cst ?_ | with_reducible refine we_c2 ?_ | with_reducible refine we_c1 ?_ | with_reducible refine we_c3 ?_ | with_reducible refine we_call ?_ | with_reducible refine wa_nil ?_ | with_reducible refine wa_cons ?_ | with_reducible refine we_tup ?_ | with_reducible refine we_lst ?_ | with_reducible refine we_ifV ?_ | with_reducible refine we_sl ?_ | with_reducible refine wp_no ?_ | with_reducible refine wt_b ?_ | with_reducible refine wt_v ?_ | with_reducible refine wt_not ?_ | with_reducible refine wt_and ?_ | with_reducible refine wt_or ?_ | with_reducible refine wt_yes ?_ | with_reducible refine wb_t ?_ | with_reducible refine wb_f ?_ | with_reducible refine wb_nt ?_ | with_reducible refine wb_nf ?_ | with_reducible refine we_rv ?_ | with_reducible refine we_ch ?_ | with_reducible refine wa_seq ?_ | with_reducible refine wa_it ?_ | with_reducible refine wa_rg ?_ | with_reducible refine wp_of ?_ | with_reducible refine we_and ?_ | with_reducible refine we_or ?_ | with_reducible refine wo_r (addD_int _ _) ?_ | with_reducible refine wo_r (subD_int _ _) ?_ | with_reducible refine wo_r (negD_int _) ?_ | with_reducible refine wo_r (iaddD_int _ _) ?_ | with_reducible refine wo_r (ixL0 _ _ ) ?_ | with_reducible refine wo_r (ixL1 _ _ _ ) ?_ | with_reducible refine wo_r (ixL2 _ _ _ _ ) ?_ | with_reducible refine wo_r (ixL3 _ _ _ _ _ ) ?_ | with_reducible refine wo_r (ixT0 _ _ ) ?_ | with_reducible refine wo_r (ixT1 _ _ _ ) ?_ | with_reducible refine wo_r (ixT2 _ _ _ _ ) ?_ | with_reducible refine wo_r (ixT3 _ _ _ _ _ ) ?_ | with_reducible refine wo_r (a1) ?_ | with_reducible refine wo_r (t2) ?_ | with_reducible refine wo_r (a2) ?_ | refine Exists.intro _ (And.intro rfl ?_) | exact Exists.intro _ rfl | dsimp only [List.set_cons_succ, List.set_cons_zero])
            refine ⟨_, _, _, rfl, rfl, okB_tup (n := m + 1) (fun d hd => ?_) (by rw [List.length_append, List.length_append, List.length_singleton]; omega), ht'⟩
            rcases List.mem_append.mp hd with h | h
            · rcases List.mem_append.mp h with h | h
              · exact okB_up m d (hvs d (List.mem_of_mem_take h))
              · rw [List.mem_singleton.mp h]; exact hr
            · exact okB_up m d (hvs d (List.mem_of_mem_drop h))
          · refine wb_of (c := false) (decide_eq_false hd) (wb_f (ws_skip ?_))
            exact tail tp ht none
        · refine wb_of (c := false) (decide_eq_false (by omega)) (wb_f (wb_f (ws_skip ?_)))
          exact tail tp ht none
      | none => exact ws_if (wt_and (wt_v (we_isi (we_rd rfl ⟨rfl, false, rfl, wb_f (wb_f (ws_skip (tail tp ht none)))⟩))))
      | bool b => exact ws_if (wt_and (wt_v (we_isi (we_rd rfl ⟨rfl, false, rfl, wb_f (wb_f (ws_skip (tail tp ht none)))⟩))))
      | int i => exact ws_if (wt_and (wt_v (we_isi (we_rd rfl ⟨rfl, false, rfl, wb_f (wb_f (ws_skip (tail tp ht none)))⟩))))
      | str x => cases n <;> cases hv
      | list l => cases n <;> cases hv
      | dict l => cases n <;> cases hv)
    obtain ⟨d, l, e, h1, h2⟩ := h
    exact ⟨d, l, e, h1, h2⟩
end Lb
namespace Lb
open PySem hiding Env
open Dn
variable [Wd]

theorem sh_list {ds : List D} (h : ∀ e ∈ ds, Ok 60 e) (hl : ds.length ≤ 16777216) : SeqAt.shaped (.list ds) = true := (Ok.lst (n := 60) h hl).shaped (by omega)
theorem any_dq {d : D} {ds : List D} (hd : nob d = true) (h : ∀ e ∈ ds, nob e = true) : (ds.any fun z => PyData.eqv z d) = ds.any fun z => dq z d := by
  rw [Bool.eq_iff_iff, List.any_eq_true, List.any_eq_true]
  constructor
  · rintro ⟨z, hz, e⟩
    exact ⟨z, hz, dq_iff.mpr ((eqv_iff z d (h z hz) hd).mp e)⟩
  · rintro ⟨z, hz, e⟩
    exact ⟨z, hz, (eqv_iff z d (h z hz) hd).mpr (dq_iff.mp e)⟩
theorem inT_gd {d : D} {ds : List D} (hd : Gd 60 d) (h : ∀ e ∈ ds, Gd 60 e) (hl : ds.length ≤ 16777216) : inD d (.tuple ds) = some (.bool (ds.any fun z => dq z d)) := by
  rw [← any_dq hd.nb fun e he => (h e he).nb]
  have e : (if SeqAt.shaped d = true ∧ SeqAt.shaped (.list ds) = true then some (PyData.bool (ds.any fun z => PyData.eqv z d)) else none) = some (PyData.bool (ds.any fun z => PyData.eqv z d)) := if_pos ⟨hd.ok.shaped (by omega), sh_list (fun e he => (h e he).ok) hl⟩
  rw [← e]
  rfl
theorem ninT_gd {d : D} {ds : List D} (hd : Gd 60 d) (h : ∀ e ∈ ds, Gd 60 e) (hl : ds.length ≤ 16777216) : notInD d (.tuple ds) = some (.bool (!ds.any fun z => dq z d)) := by
  rw [← any_dq hd.nb fun e he => (h e he).nb]
  have e : (if SeqAt.shaped d = true ∧ SeqAt.shaped (.list ds) = true then some (PyData.bool (!ds.any fun z => PyData.eqv z d)) else none) = some (PyData.bool (!ds.any fun z => PyData.eqv z d)) := if_pos ⟨hd.ok.shaped (by omega), sh_list (fun e he => (h e he).ok) hl⟩
  rw [← e]
  rfl
theorem any_enc {α : Type} [DecidableEq α] {enc : α → D} (h : ∀ a b, enc a = enc b → a = b) (a : α) (l : List α) : ((l.map enc).any fun z => dq z (enc a)) = decide (a ∈ l) := by
  rw [Bool.eq_iff_iff, List.any_eq_true, decide_eq_true_iff]
  constructor
  · rintro ⟨z, hz, e⟩
    obtain ⟨b, hb, rfl⟩ := List.mem_map.mp hz
    rw [← h _ _ (dq_iff.mp e)]
    exact hb
  · intro ha
    exact ⟨enc a, List.mem_map_of_mem ha, dq_self _⟩
theorem rng_at {m k : Nat} {pre post : List Nat} (h : List.range m = pre ++ k :: post) : k = pre.length ∧ k < m := by
  have hlt : pre.length < m := by
    have := congrArg List.length h
    rw [List.length_range, List.length_append, List.length_cons] at this
    omega
  have := congrArg (fun l => l[pre.length]?) h
  simp only [List.getElem?_append_right (Nat.le_refl _), Nat.sub_self, List.getElem?_cons_zero] at this
  rw [List.getElem?_range hlt] at this
  have e := (Option.some.inj this).symm
  exact ⟨e, by omega⟩
end Lb
namespace Dn
open PySem PySem.Spec PyProof.Rows L2
variable [Wd]
section
variable {X : Cx} {B : Addr → Prop} {M : MEnv} {w : Bool} {e : Expr} {f : CE} {m : Md}
end
section
variable {X : Cx}
end
end Dn
namespace L2
open PySem PySem.Spec PyProof.Rows
section
variable {prog : Program} {w : World} {A : Around} {E : Value → Shared → Prop} {s : Shared} {l : Addr} {its : List Value} {ns : List Int} {Q : Value → Shared → Prop}
end
section
variable {X : Cx}
end
end L2
namespace Dn
open PySem PySem.Spec PyProof.Rows L2
variable [Wd]
section
variable {X : Cx}
end
end Dn
namespace Dn
open PySem PySem.Spec PyProof.Rows L2
variable [Wd]
section
variable {X : Cx} {o e : Expr} {es : List Expr} {to : TE} {t : TA} {name : Str} {apos cpos : Pos} {id : String} {r : V → List V → Hp → VK → Prop}
end
section
variable {X : Cx} {pins : List (Addr × Obj)} {σ : L2.St} {H : Hp} {s : Shared}
end
section
variable {X : Cx}

end
section
variable {X : Cx} {B : Addr → Prop} {M : MEnv} {e e2 o : Expr} {f g g2 : CE} {m ma mb mc : Md} {w wa wb wc : Bool} {apos cpos : Pos}
end
end Dn
namespace Lb
open PySem Dn
noncomputable section

end
end Lb
namespace Lb
open PySem hiding Env
open Dn
variable [Wd]

end Lb
namespace Lb
open PySem hiding Env
open Dn
variable [Wd]

end Lb
namespace Lb
open PySem hiding Env
open Dn
variable [Wd]

/-- what is spoilt: tuples of texts and numbers -/
def okS : Nat → D → Bool
  | _, .none => true
  | _, .int _ => true
  | _, .str x => PyData.canLay0 (.str x)
  | n + 1, .tuple ds => ds.all (okS n) && decide (ds.length ≤ 10000)
  | _, _ => false
end Lb
namespace Lb
open PySem hiding Env
open Dn
variable [Wd]

/-- things as good data -/
structure En {α : Type} (enc : α → D) (n : Nat) : Prop where
  inj : ∀ a b, enc a = enc b → a = b
  gd : ∀ a, Gd n (enc a)
  im : ∀ a, immut (enc a) = true
section
variable {α : Type} [DecidableEq α] {enc : α → D} {n : Nat}
theorem En.eqv (h : En enc n) (a b : α) : PyData.eqv (enc a) (enc b) = decide (a = b) := by
  rw [Bool.eq_iff_iff, eqv_iff _ _ (h.gd a).nb (h.gd b).nb, decide_eq_true_iff]
  exact ⟨h.inj a b, congrArg enc⟩
end
theorem eqNat (a b : Nat) : eqD (.int (a : Nat)) (.int (b : Nat)) = some (.bool (decide (a = b))) := by
  rw [eqD_int]
  congr 2
  exact decide_eq_decide.mpr (by omega)
theorem nil_iff {α : Type} {enc : α → D} (l : List α) : (PyData.list (l.map enc) = .list []) ↔ l = [] := by
  constructor
  · intro e
    exact List.map_eq_nil_iff.mp (PyData.list.inj e)
  · rintro rfl
    rfl
end Lb
namespace Dn
open PySem PySem.Spec PyProof.Rows L2
variable [Wd]

def R1 {α β : Type} (r : α → β → Prop) (p : Int × α) (q : Int × β) : Prop := p.1 = q.1 ∧ r p.2 q.2
theorem R1.any {α β : Type} {r : α → β → Prop} (k : Int) : ∀ {a : List (Int × α)} {b : List (Int × β)}, Paired (R1 r) a b → a.any (fun kv => decide (kv.1 = k)) = b.any (fun kv => decide (kv.1 = k))
  | _, _, .nil => rfl
  | _, _, .cons h t => by rw [List.any_cons, List.any_cons, R1.any k t, h.1]
theorem R1.map {α β : Type} {r : α → β → Prop} (k : Int) {v : α} {u : β} (hv : r v u) : ∀ {a : List (Int × α)} {b : List (Int × β)}, Paired (R1 r) a b → Paired (R1 r) (a.map fun kv => if kv.1 = k then (kv.1, v) else kv) (b.map fun kv => if kv.1 = k then (kv.1, u) else kv)
  | _, _, .nil => .nil
  | _, _, .cons (a := p) (b := q) h t => by
    refine .cons ?_ (R1.map k hv t)
    show R1 r (if p.1 = k then (p.1, v) else p) (if q.1 = k then (q.1, u) else q)
    by_cases c : p.1 = k
    · rw [if_pos c, if_pos (by rw [← h.1]; exact c)]
      exact ⟨h.1, hv⟩
    · rw [if_neg c, if_neg (by rw [← h.1]; exact c)]
      exact h
section
variable {X : Cx} {pins : List (Addr × Obj)} {σ : L2.St} {H : Hp} {s : Shared}
theorem ent_of : ∀ {es : List DictEntry} {kvs : List (Int × Value)} {ps : List (Int × V)}, Pairs (intKind X.prog X.w) es kvs → (∀ e ∈ es, ∃ k, (intKind X.prog X.w).is k e.key = true ∧ e.hash = (intKind X.prog X.w).hash k) → Paired (R1 RelV) ps kvs → Paired EntR (ps.map fun p => (V.int p.1, hk0 (.int p.1), p.2)) es
  | _, _, _, .nil, _, .nil => .nil
  | _, _, _, .cons hk hv t, hh, .cons r rt => by
    refine .cons ⟨?_, ?_, ?_⟩ (ent_of t (fun e he => hh e (List.mem_cons_of_mem _ he)) rt)
    · obtain ⟨tk, e⟩ := Value.isInt_shape hk
      exact ⟨tk, by rw [e, r.1]⟩
    · obtain ⟨k2, hk2, e⟩ := hh _ List.mem_cons_self
      have := (intKind X.prog X.w).inj _ _ _ hk hk2
      rw [e, ← this, ← r.1]
      rfl
    · rw [hv]
      exact r.2
end
section
variable {X : Cx}
end
section
variable {X : Cx} {B : Addr → Prop} {M : MEnv} {a : Expr} {f : CE} {w : Bool} {pos : Pos}
end
end Dn
namespace Dn
open PySem PySem.Spec PyProof.Rows L2
variable [Wd]

section
variable {X : Cx} {B : Addr → Prop} {S : Sc} {M M1 M2 M' N : MEnv} {a b c e tg iter : Expr} {es elts : List Expr} {f f1 f2 f3 : CE} {g h : CS} {m m1 m2 m3 mi : Md} {w w1 w2 w3 : Bool} {pos : Pos}
end
end Dn
namespace Dn
open PySem PySem.Spec PyProof.Rows L2
variable [Wd]

section
variable {X : Cx} {B : Addr → Prop} {M : MEnv} {e e2 : Expr} {f : CE} {m : Md} {w : Bool} {pos : Pos} {t : TA}
end
end Dn
namespace Dn
open PySem PySem.Spec PyProof.Rows L2
variable [Wd]

def catF : D → D → Option D
  | .list xs, .list ys => if xs.length + ys.length ≤ sizeLine then some (.list (xs ++ ys)) else none
  | .tuple xs, .tuple ys => if xs.length + ys.length ≤ sizeLine then some (.tuple (xs ++ ys)) else none
  | _, _ => none
def rD2F (K : PySem.W.Frag) (φ : D → D → Option D) (mo : Md) : R2 := fun x y H Q => ∃ d e r, Rep (rdF K H) d x ∧ Rep (rdF K H) e y ∧ φ d e = some r ∧ (Sz K H → Res K mo r H Q)
section
variable {X : Cx}
theorem o_catF : OpR X (binaryOp .Add) (rD2F X.K catF .own) := by
  refine OpR.impS (OpR.or op_catL op_catN) fun x y H Q h sz => ?_
  obtain ⟨d, e, r, hd, he, hr, k⟩ := h
  have k := k sz
  cases hd with
  | lst ha hb =>
    cases he <;> simp [catF] at hr
    rename_i hc' hd'
    obtain ⟨hz, rfl⟩ := hr
    exact .inl ⟨_, _, _, _, rfl, rfl, ha.sq, hc'.sq, by rw [← hb.length, ← hd'.length]; exact hz, fun p hp => k.lst hp (RepAll.append hb hd')⟩
  | tup ha hb =>
    cases he <;> simp [catF] at hr
    rename_i hc' hd'
    obtain ⟨hz, rfl⟩ := hr
    refine .inr ⟨_, _, _, _, rfl, rfl, ha.sq, hc'.sq, by rw [← hb.length, ← hd'.length]; exact hz, fun e1 => ?_, fun _ e2 => ?_, fun _ _ p its hp => k.tup hp (RepAll.append hb hd')⟩
    · have hl := hb.length
      rw [e1] at hl
      rw [List.eq_nil_of_length_eq_zero hl, List.nil_append] at k
      exact k.own (.tup hc' hd') (fun _ z => nomatch z) fun _ z => nomatch z
    · have hl := hd'.length
      rw [e2] at hl
      rw [List.eq_nil_of_length_eq_zero hl, List.append_nil] at k
      exact k.own (.tup ha hb) (fun _ z => nomatch z) fun _ z => nomatch z
  | int i => cases he <;> simp [catF] at hr
  | str i => cases he <;> simp [catF] at hr
  | non => cases he <;> simp [catF] at hr
  | bl b => cases he <;> simp [catF] at hr
  | dic _ _ _ => cases he <;> simp [catF] at hr
end
section
variable {X : Cx} {B : Addr → Prop} {M : MEnv} {a b : Expr} {f g : CE} {mo : Md} {wa wb : Bool} {pos : Pos}
theorem de_opF {op : Operator} {φ : D → D → Option D} (ho : OpR X (binaryOp op) (rD2F X.K φ mo)) (ha : DE X B M wa a f .frz) (hb : DE X B M wb b g .frz) : DE X B M (wa || wb) (.BinOp a op b pos) (c2 φ f g) mo :=
  PE.mono (pe_op ho ha hb) fun σ H Q h => by
  obtain ⟨δ, o, r, δ2, hR, hf, k⟩ := h
  obtain ⟨d, e, δ1, h1, h2, h3⟩ := c2_inv hf
  refine ⟨δ, o, d, δ1, hR, h1, fun x H1 o1 p1 k1 R1 s1 r1 f1 c1 => ⟨δ1, o1, e, δ2, R1, h2, fun y H2 o2 p2 k2 R2 s2 r2 f2 c2' => ?_⟩⟩
  have r1' := RRep.keep (σ := σ) (M := M) R1 r1 k2 (fun a q => (f1 a q).2) (show okm .frz wb = true from rfl)
  refine ⟨d, e, r, r1', r2, h3, fun _ z H3 p3 k3 r3 f3 c3 => ?_⟩
  have kk : Kp (wa || wb) o H H2 := (k1.up fun z => by rw [z]; rfl).trans s1 (k2.up fun z => by rw [z]; simp)
  have ss : Sub o H o2 := s1.trans k1 s2
  exact k z H3 o2 p3 (kk.trans ss (Kp.all k3)) (R2.keep k3) ss (r3 B) (fun a q => ⟨kk.there a (f3 a q), R2.fresh (f3 a q)⟩) c3
end
section
variable {X : Cx} {B : Addr → Prop} {M : MEnv} {a : Expr} {f : CE} {fl fh : CP} {wa wb wc : Bool} {pos : Pos}
end
end Dn
namespace RE
open PySem PySem.Spec PyProof.Rows
end RE
namespace L2
open PySem PySem.Spec PyProof.Rows
section
variable {X : Cx}
end
end L2
namespace Dn
open PySem PySem.Spec PyProof.Rows L2
variable [Wd]
section
variable {X : Cx} {B : Addr → Prop} {S : Sc} {M M1 M2 M' N : MEnv} {a b c e tg iter : Expr} {es : List Expr} {f f1 f2 g : CE} {m ma mb mi : Md} {w w1 w2 wa wb : Bool} {pos px apos cpos : Pos} {i : Nat} {x : Str}
end
end Dn
namespace Dn
open PySem PySem.Spec PyProof.Rows L2
variable [Wd]

section
variable {X : Cx}
end
end Dn
namespace Dn
open PySem PySem.Spec PyProof.Rows L2
variable [Wd]

section
variable {X : Cx} {B : Addr → Prop} {S : Sc} {M M1 M2 M' N : MEnv} {a b c e tg iter : Expr} {es elts : List Expr} {f f1 f2 f3 : CE} {g h : CS} {m m1 m2 m3 mi : Md} {w w1 w2 w3 : Bool} {pos : Pos}
end
end Dn
namespace Dn
open PySem PySem.Spec PyProof.Rows L2
variable [Wd]

section
variable {X : Cx} {B : Addr → Prop} {S : Sc} {M M1 M2 M' N : MEnv} {a b c e e1 e2 tg iter : Expr} {es elts : List Expr} {f f1 f2 f3 g1 g2 : CE} {g h : CS} {m m1 m2 m3 mi : Md} {w w1 w2 w3 : Bool} {pos : Pos}
end
end Dn
namespace PySem
open Sem (wp)
section
variable {prog : Program} {w : World} {A : Around} {E : Value → Shared → Prop} {s : Shared}
end
end PySem
namespace Dn
open PySem PySem.Spec PyProof.Rows L2
variable [Wd]
end Dn
namespace Dn
open PySem PySem.Spec PyProof.Rows L2
variable [Wd]
section
variable {X : Cx} {B : Addr → Prop} {M : MEnv} {e : Expr} {f : CE} {m : Md} {w : Bool} {to : TE}
def upD : D → Option D
  | .str z => if z.length ≤ 5592405 then some (.str (Txt.upper z)) else none
  | _ => none
theorem pe_upper {apos cpos : Pos} (ho : PE X e to) (hbase : attributeBase e "upper" X.env (eval e X.env) = eval e X.env) (hline : (apos.endLine == cpos.line) = true) :
    PE X (.Call (.Attribute e "upper" apos) [] [] cpos) (fun σ H Q => to σ H fun v H1 => ∃ z, v = .str z ∧ z.length ≤ 5592405 ∧ Q (.str (Txt.upper z)) H1) := by
  refine ⟨fun pins s σ H Q I h => ?_⟩
  refine J1.ev_upper hbase hline (thn (ho.run pins s σ H _ I h) fun v s1 ⟨x, H1, I1, r1, q1⟩ => ?_)
  obtain ⟨z, rfl, hz, q⟩ := q1
  obtain ⟨t, rfl⟩ := r1
  exact ⟨z, t, rfl, hz, fun t' k => ⟨.str (Txt.upper z), H1, I1.tok k, ⟨t', rfl⟩, q⟩⟩
theorem de_upper {apos cpos : Pos} (he : DE X B M w e f m) (hbase : attributeBase e "upper" X.env (eval e X.env) = eval e X.env) (hline : (apos.endLine == cpos.line) = true) :
    DE X B M w (.Call (.Attribute e "upper" apos) [] [] cpos) (c1 upD f) .frz := PE.mono (pe_upper he hbase hline) fun σ H Q h => by
  obtain ⟨δ, o, r, δ1, hR, hf, k⟩ := h
  obtain ⟨d, h1, h3⟩ := c1_inv hf
  cases d with
  | str z =>
    have h3 : (if z.length ≤ 5592405 then some (PyData.str (Txt.upper z)) else none) = some r := h3
    by_cases hz : z.length ≤ 5592405
    · rw [if_pos hz] at h3
      cases h3
      exact ⟨δ, o, _, δ1, hR, h1, fun v H1 o1 p1 k1 R1 s1 r1 f1 c1 => ⟨z, by cases (show Rep (rdL X.K H1) (.str z) v from r1.lent); rfl, hz, k (.str _) H1 o1 noP k1 R1 s1 (.str _) (fun _ z => z.elim) fun _ z => z.elim⟩⟩
    · rw [if_neg hz] at h3
      cases h3
  | _ => cases h3
end
end Dn
namespace PySem
open Sem (wp)
section
variable {prog : Program} {w : World} {A : Around} {E : Value → Shared → Prop} {s : Shared}
end
end PySem
namespace Dn
open PySem PySem.Spec PyProof.Rows L2
variable [Wd]
end Dn
namespace NS
open PySem PySem.Spec PyProof.Rows L2
section
variable {P : Program} {w : World}
variable {A : Around} {E : Value → Shared → Prop} {s : Shared} {a : Addr}
end
end NS
namespace Dn
open PySem PySem.Spec PyProof.Rows L2
variable [Wd]
section
variable {X : Cx} {pins : List (Addr × Obj)} {σ : L2.St} {H : Hp} {s : Shared}
def dK : Key → D | .inl i => .int i | .inr x => .str x
end
section
variable {X : Cx} {B : Addr → Prop} {M : MEnv} {a : Expr} {f : CE} {m : Md} {w : Bool} {pos : Pos}
end
end Dn
namespace Dn
open PySem PySem.Spec PyProof.Rows L2
variable [Wd]
end Dn
namespace Dn
open PySem PySem.Spec PyProof.Rows L2
variable [Wd]
section
variable {X : Cx} {pins : List (Addr × Obj)} {σ : L2.St} {H : Hp} {s : Shared}
end
end Dn
namespace Dn
open PySem PySem.Spec PyProof.Rows L2
variable [Wd]
section
variable {X : Cx} {B : Addr → Prop} {M : MEnv} {w : Bool} {tg : Expr} {pos : Pos}
end
end Dn
namespace Dn
open PySem PySem.Spec PyProof.Rows L2
variable [Wd]
section
variable {κ α β κ' α' β' : Type} [DecidableEq κ] [DecidableEq κ']
end
def n3 (ps : List (D × D)) : List (NestedKey × D × D) := ps.map fun p => (nk p.1, p.1, p.2)
section
variable {X : Cx} {pins : List (Addr × Obj)} {σ : L2.St} {H : Hp} {s : Shared}
abbrev T3 := NestedKey × (D × V × Value) × (D × V × Value)
def t3 (t : (D × D) × (V × V) × (Value × Value)) : T3 := (nk t.1.1, (t.1.1, t.2.1.1, t.2.2.1), (t.1.2, t.2.1.2, t.2.2.2))
end
section
variable {X : Cx}
end
section
variable {X : Cx} {B : Addr → Prop} {M : MEnv} {a : Expr} {f : CE} {w : Bool} {pos : Pos}
end
end Dn
namespace Dn
open PySem PySem.Spec PyProof.Rows L2
variable [Wd]
section
variable {X : Cx} {pins : List (Addr × Obj)} {σ : L2.St} {H : Hp} {s : Shared}
end
section
variable {X : Cx}
end
section
variable {X : Cx} {B : Addr → Prop} {S : Sc} {M M1 M2 M' N : MEnv} {kx vx tg iter : Expr} {ifs : List Expr} {scope : Scope} {fk fv : CE} {g h : CS} {m mi : Md} {w wc wi wk wv : Bool} {pos : Pos}
end
end Dn
namespace Dn
open PySem PySem.Spec PyProof.Rows L2
variable [Wd]
section
variable {prog : Program} {w : World} {A : Around} {R : Result → Shared → Prop} {s : Shared} {kx vx t0 i0 t1 i1 : Expr} {ifs0 ifs1 : List Expr} {scope : Scope} {pos : Pos} {it : Value} {D : Addr} {env : PySem.Env}
end
section
variable {X : Cx}
end
section
variable {X : Cx} {B : Addr → Prop} {S : Sc} {M M1 M2 M' N : MEnv} {kx vx tg iter tg1 iter1 : Expr} {ifs ifs1 : List Expr} {scope : Scope} {fk fv : CE} {g h : CS} {m mi mi1 : Md} {w wc wi wi1 wc1 wk wv : Bool} {pos : Pos}
end
end Dn
namespace Dn
open PySem PySem.Spec PyProof.Rows L2
variable [Wd]
def repD (y z : Str) : D → Option D
  | .str x => if x.length + (x.length + 1) * z.length ≤ 16777216 then some (.str (Txt.replace x y z)) else none
  | _ => none
section
variable {X : Cx} {B : Addr → Prop} {M : MEnv} {e a b o1 : Expr} {f g : CE} {ta tb te : TE} {m mb : Md} {w wb wc : Bool} {y z : Str} {j k : Nat} {cp qp pos apos c0 c1 : Pos} {r : R2}
theorem pe_ifIn (ho : OpR X (compareOp .In) r) (he : PE X e te) (hm : behindInMarks .In e = false) (ha : PET X a ta) (hb : PET X b tb) : PE X (.IfExp (.Compare (.Constant (.str y) j cp) [.In] [e] qp) a b pos) (tIf (tTest (tOp r (tC (.str y)) te)) ta tb) := by
  refine ⟨fun pins s σ H Q I h => ?_⟩
  refine wpAny_IfExp (wpAny_mono (Q := fun d s1 => 1 ≤ s1.toks ∧ ∃ H1, Inv X pins σ H1 s1 ∧ (if d = true then ta σ H1 Q else tb σ H1 Q)) ?_ (fun d s1 q => ?_) fun _ _ z => z)
  · refine wpAny_isTrue_Compare1 (Calls.Constant_str ?_) hm
    refine wpAny_mono (wpAny_toks_of (n := 1) (by show 1 ≤ s.toks + 1; omega) (he.run pins _ σ H _ (I.tok _) h)) (fun u s2 q => ?_) fun _ _ z => z.2
    obtain ⟨hk, yv, H2, I2, r2, q2⟩ := q
    refine wpAny_mono (wpAny_toks_of (n := 1) hk (ho pins s2 σ H2 (.str y) yv _ u _ I2 ⟨_, rfl⟩ r2 q2)) (fun c s3 q => ?_) fun _ _ z => z.2
    obtain ⟨hk3, zv, H3, I3, r3, kk, e3, q3⟩ := q
    subst e3
    cases r3
    exact wpAny_truthy_bool ⟨hk3, H3, I3, q3⟩
  · obtain ⟨hk, H1, I1, q1⟩ := q
    cases d with
    | true => exact ha pins s1 σ H1 Q hk I1 q1
    | false => exact hb pins s1 σ H1 Q hk I1 q1
theorem PET.mono {t t' : TE} (h : PET X e t) (i : ∀ σ H Q, t' σ H Q → t σ H Q) : PET X e t' := fun pins s σ H Q h0 I q => h pins s σ H Q h0 I (i σ H Q q)
abbrev DET (X : Cx) (B : Addr → Prop) (M : MEnv) (w : Bool) (e : Expr) (f : CE) (m : Md) : Prop := PET X e (TD X.K B M w f m)
theorem det_rep {w : Bool} (he : DE X B M w e f m) (hyz : (y == z) = false)
    (hst : starEach [.Constant (.str y) j c0, .Constant (.str z) k c1] X.env = [(false, eval (.Constant (.str y) j c0) X.env), (false, eval (.Constant (.str z) k c1) X.env)])
    (hbase : attributeBase e "replace" X.env (eval e X.env) = eval e X.env) (hline : (apos.endLine == pos.line) = true) :
    DET X B M w (.Call (.Attribute e "replace" apos) [.Constant (.str y) j c0, .Constant (.str z) k c1] [] pos) (Dn.c1 (repD y z) f) .frz := PET.mono (CwR.pet_replC he hyz hst hbase hline) fun σ H Q h => by
  obtain ⟨δ, o, r, δ1, hR, hf, k⟩ := h
  obtain ⟨d, h1, h3⟩ := c1_inv hf
  cases d with
  | str x =>
    have h3 : (if x.length + (x.length + 1) * z.length ≤ 16777216 then some (PyData.str (Txt.replace x y z)) else none) = some r := h3
    by_cases hz : x.length + (x.length + 1) * z.length ≤ 16777216
    · rw [if_pos hz] at h3
      cases h3
      exact ⟨δ, o, _, δ1, hR, h1, fun v H1 o1 p1 k1 R1 s1 r1 f1 c1 => ⟨x, by cases (show Rep (rdL X.K H1) (.str x) v from r1.lent); rfl, hz, k (.str _) H1 o1 noP k1 R1 s1 (.str _) (fun _ z => z.elim) fun _ z => z.elim⟩⟩
    · rw [if_neg hz] at h3
      cases h3
  | _ => cases h3
/-- a if 'y' in e else b, where a and b want a token -/
theorem de_ifIn {wt wa : Bool} {t : CE} {fa fb : CE} (hu : X.A.units + 65 < cLine) (hw : X.w = Wd.w) (he : DE X B M wt e t m) (hm : behindInMarks .In e = false) (ha : DET X B M wa a fa .frz) (hb : DET X B M wb b fb .frz) :
    DE X B M (wt || (wa || wb)) (.IfExp (.Compare (.Constant (.str y) j cp) [.In] [e] qp) a b pos) (ifV (tstB (c2 inD (cst (.str y)) t)) fa fb) .frz := PE.mono (pe_ifIn (o_in hu hw) he hm ha hb) fun σ H Q q => by
  obtain ⟨δ, o, d, δ2, hR, hf, k⟩ := q
  obtain ⟨⟨b1, δ1⟩, h1, hf⟩ := Option.bind_eq_some_iff.mp hf
  have test : TT' X.K B M wt (tstB (c2 inD (cst (.str y)) t)) σ H (fun b H1 => if b = true then TD X.K B M wa fa .frz σ H1 Q else TD X.K B M wb fb .frz σ H1 Q) := by
    refine ⟨δ, o, b1, δ1, hR, h1, fun H1 o1 k1 R1 s1 => ?_⟩
    cases b1 with
    | true => exact td_then (wb := wa) (fun v H' o' p k2 => k v H' o' p (k2.up fun z => by revert z; cases wt <;> cases wa <;> cases wb <;> simp)) k1 s1 R1 hf
    | false => exact td_then (wb := wb) (fun v H' o' p k2 => k v H' o' p (k2.up fun z => by revert z; cases wt <;> cases wa <;> cases wb <;> simp)) k1 s1 R1 hf
  obtain ⟨δ, o, b, δ', hR, hf, k⟩ := test
  have hh : TD X.K B M (false || wt) (c2 inD (cst (.str y)) t) .frz σ H (fun x H' => ∃ kk, x = .bl kk ∧ (if kk = true then TD X.K B M wa fa .frz σ H' Q else TD X.K B M wb fb .frz σ H' Q)) := by
    refine ⟨δ, o, .bool b, δ', hR, tstB_inv hf, fun v H' o' p k1 R1 s1 r1 f1 c1 => ?_⟩
    refine ⟨b, ?_, k H' o' k1 R1 s1⟩
    cases (show Rep (rdF X.K H') (.bool b) v from r1)
    rfl
  have h2 := td_2 (mo := .frz) (wa := false) (wb := wt) (ma := .frz) (mb := m) X.K rfl σ H _ hh
  exact td_cst (fun _ => .str y) h2
end
end Dn
namespace Dn
open PySem PySem.Spec PyProof.Rows L2
variable [Wd]
theorem adjust_rev0 (n : Nat) : Builtin.Slice.sliceAdjust none (some 0) (-1) (n : Int) = ((n : Int) - 1, min 0 ((n : Int) - 1)) := by
  unfold Builtin.Slice.sliceAdjust
  simp
  try omega
theorem places_rev0 (n : Nat) : Builtin.Slice.slicePlaces ((n : Int) - 1) (min 0 ((n : Int) - 1)) (-1) = n - 1 := by
  unfold Builtin.Slice.slicePlaces
  have h1 : ¬ ((-1 : Int) > 0) := by omega
  have h2 : (- -1 : Int) = 1 := by decide
  simp only [h1, if_false, h2, Int.ediv_one]
  split <;> omega
theorem pick_rev0 (xs : Array Value) : ((List.range (xs.size - 1)).filterMap fun (m : Nat) => xs[(((xs.size : Int) - 1) + (m : Int) * (-1)).toNat]?).toArray = (xs.toList.drop 1).reverse.toArray := by
  congr 1
  apply List.ext_getElem?
  intro i
  have hf : ((List.range (xs.size - 1)).filterMap fun (m : Nat) => xs[(((xs.size : Int) - 1) + (m : Int) * (-1)).toNat]?) = (List.range (xs.size - 1)).map fun m : Nat => (xs[xs.size - 1 - m]?).getD default := by
    have : ∀ l : List Nat, (∀ m ∈ l, m < xs.size - 1) → (l.filterMap fun (m : Nat) => xs[(((xs.size : Int) - 1) + (m : Int) * (-1)).toNat]?) = l.map fun m : Nat => (xs[xs.size - 1 - m]?).getD default := by
      intro l
      induction l with
      | nil => intro _; rfl
      | cons a l ih =>
        intro h
        have ha := h a List.mem_cons_self
        have e : (((xs.size : Int) - 1) + (a : Int) * (-1)).toNat = xs.size - 1 - a := by omega
        have hl : xs.size - 1 - a < xs.size := by omega
        rw [List.filterMap_cons, e, Array.getElem?_eq_getElem hl]
        dsimp only
        rw [ih fun m hm => h m (List.mem_cons_of_mem _ hm), List.map_cons, Array.getElem?_eq_getElem hl]
        rfl
    exact this _ fun m hm => List.mem_range.mp hm
  rw [hf, List.getElem?_map]
  by_cases h : i < xs.size - 1
  · rw [List.getElem?_range h, List.getElem?_reverse (by rw [List.length_drop, Array.length_toList]; exact h), List.getElem?_drop, List.length_drop, Array.length_toList]
    have e : 1 + (xs.size - 1 - 1 - i) = xs.size - 1 - i := by omega
    have hl : xs.size - 1 - i < xs.size := by omega
    rw [e, Array.getElem?_toList, Array.getElem?_eq_getElem hl, Option.map_some, Array.getElem?_eq_getElem hl]
    rfl
  · rw [List.getElem?_eq_none (by rw [List.length_range]; omega), List.getElem?_eq_none (by rw [List.length_reverse, List.length_drop, Array.length_toList]; omega)]
    rfl
theorem Vals.drop1 {vs : List V} {us : List Value} (h : Vals vs us) : Vals (vs.drop 1) (us.drop 1) := by
  cases h with
  | nil => exact .nil
  | cons _ t => exact t
section
variable {prog : Program} {w : World} {A : Around} {E : Value → Shared → Prop} {s : Shared}
theorem applied_rev0 {sl : Addr} {vl vu vs : Value} {n : Nat} {Q : Int × Int × Nat → Shared → Prop} (hs : s.heap.IsSliceOf sl vl vu vs) (pl : IsPart vl none) (pu : IsPart vu (some 0)) (ps : IsPart vs (some (-1)))
    (h : Q ((n : Int) - 1, -1, n - 1) s) : wpAny (model prog w) A (Builtin.Slice.sliceApplied (.ref sl) (pure (n : Int))) Q E s := by
  obtain ⟨os, hos, hcs, hds⟩ := id hs
  unfold Builtin.Slice.sliceApplied Builtin.Slice.sliceFields
  refine wpAny_bind (wpAny_bind (wpAny_field hos hds (x := vl) rfl (wpAny_bind (wpAny_field hos hds (x := vu) rfl (wpAny_bind (wpAny_field hos hds (x := vs) rfl (wpAny_pure ?_)))))))
  refine wpAny_bind (HT.slicePart_ ps ?_)
  show wpAny _ _ (if ((-1 : Int) == 0) = true then _ else _) _ _ s
  rw [if_neg (by decide)]
  refine wpAny_bind (HT.slicePart_ pl (wpAny_bind (HT.slicePart_ pu (wpAny_bind (wpAny_pure ?_)))))
  show wpAny _ _ (match Builtin.Slice.sliceAdjust none (some 0) (-1) (n : Int) with | (lo, hi) => pure (lo, (-1 : Int), Builtin.Slice.slicePlaces lo hi (-1))) _ _ s
  rw [adjust_rev0 n]
  show wpAny _ _ (pure (((n : Int) - 1), (-1 : Int), Builtin.Slice.slicePlaces ((n : Int) - 1) (min 0 ((n : Int) - 1)) (-1))) _ _ s
  rw [places_rev0]
  exact wpAny_pure h
theorem item_tupRev0 {t sl : Addr} {items : Array Value} {vl vu vs : Value} {Q : Value → Shared → Prop} (ht : IsTup s.heap t items) (hs : s.heap.IsSliceOf sl vl vu vs) (pl : IsPart vl none) (pu : IsPart vu (some 0)) (ps : IsPart vs (some (-1)))
    (h : Q (.ref s.heap.objs.size) { s with heap := s.heap.push { cls := .type "tuple", data := .seq (items.toList.drop 1).reverse.toArray } })
    (hsz : items.size ≤ sizeLine) : wpAny (model prog w) A (getItem (.ref t) (.ref sl)) Q E s := by
  have hz : sizeOk (.seq (items.toList.drop 1).reverse.toArray) := by
    show (items.toList.drop 1).reverse.toArray.size ≤ sizeLine
    rw [List.size_toArray, List.length_reverse, List.length_drop, Array.length_toList]
    omega
  obtain ⟨os, hos, hcs, hds⟩ := id hs
  have hTs : s.TypeIs (.ref sl) "slice" := ⟨os, hos, hcs⟩
  unfold getItem
  try with_reducible refine wpAny_holding ?_
  first | refine wpAny_bind (wpAny_pure ?_) | skip
  refine wpAny_bind (wpAny_sequenceKey ht.typeIs (by decide) ?_)
  refine wpAny_bind (wpAny_callSpecial?_slot (name := Str.ofString "__getitem__") ht.typeIs PyProof.Rows.slot_tuple_getitem
    (wpAny_call_entry PyProof.Rows.slot_tuple_getitem ht.typeIs entry_tuple_getitem ?_ (args_tuple_getitem _ _)))
  show wpAny _ _ (Builtin.Tuple.tupleItemsOf (.ref t) >>= _) _ _ s
  refine wpAny_bind (tupleItemsOf_ ht ?_)
  refine wpAny_bind (wpAny_typeOf hTs ?_)
  rw [if_pos (by decide)]
  refine wpAny_bind (applied_rev0 hs pl pu ps ?_)
  have hno : ¬ ((((items.size : Int) - 1) == 0 && (-1 : Int) == 1 && items.size - 1 == items.size) = true) := by
    intro q
    rw [Bool.and_eq_true, Bool.and_eq_true] at q
    exact absurd q.1.2 (by decide)
  show wpAny _ _ (if (((items.size : Int) - 1) == 0 && (-1 : Int) == 1 && items.size - 1 == items.size) = true then _ else _) _ _ s
  rw [if_neg hno, pick_rev0]
  first
    | exact wpAny_bind (m := Builtin.Tuple.tupleExact _) (wpAny_newObj_type (wpAny_pure ⟨_, rfl, wpAny_pure h⟩) hz)
    | exact wpAny_bind (m := Builtin.Tuple.tupleExact _) (wpAny_newObj_type (wpAny_bind (wpAny_pure (wpAny_pure ⟨_, rfl, wpAny_pure h⟩))) hz)
    | exact wpAny_bind (wpAny_bind (m := Builtin.Tuple.tupleExact _) (wpAny_newObj_type (wpAny_pure (wpAny_pure ⟨_, rfl, wpAny_pure h⟩)) hz))
    | exact wpAny_bind (wpAny_bind (m := Builtin.Tuple.tupleExact _) (wpAny_newObj_type (wpAny_pure ⟨_, rfl, wpAny_pure h⟩) hz))
end
theorem RepAll.drop1 {r : Rdr} {ds : List D} {vs : List V} (h : RepAll r ds vs) : RepAll r (ds.drop 1) (vs.drop 1) := by
  cases h with
  | nil => exact .nil
  | cons _ t => exact t
section
variable {X : Cx} {B : Addr → Prop} {M : MEnv} {e : Expr} {f : CE} {m : Md} {w : Bool} {pos : Pos}
def tRv0 (K : PySem.W.Frag) (te : TE) : TE := fun σ H Q => te σ H fun x H1 => ∃ a xs, x = .ref a ∧ SqT K H1 a xs ∧ newT H1 (xs.drop 1).reverse Q
theorem pe_rv0 {te : TE} {k k0 : Nat} {p0 p1 p2 p3 : Pos} (he : PE X e te) : PE X (.Subscript e (.Slice none (some (.Constant (.int 0) k0 p0)) (some (.UnaryOp .USub (.Constant (.int 1) k p1) p2)) p3) pos) (tRv0 X.K te) := by
  refine ⟨fun pins s σ H Q I h => ?_⟩
  refine Subscript_ (thn (he.run pins s σ H _ I h) fun v s1 ⟨x, H1, I1, r1, q1⟩ => ?_)
  have hst : PO X (some (.UnaryOp .USub (.Constant (.int 1) k p1) p2)) (tPart (tUn (rU fun i => .int (-i)) (tC (.int 1)))) := po_some (pe_un un_neg pe_int)
  refine wpAny_Slice (thn (po_none.run pins s1 σ H1 (fun o H2 => o = none ∧ H2 = H1) I1 ⟨rfl, rfl⟩) fun vl s2 ⟨l, H2, I2, pl, el, e2⟩ => ?_)
  subst el e2
  have hup : PO X (some (.Constant (.int 0) k0 p0)) (tPart (tC (.int 0))) := po_some pe_int
  refine thn (hup.run pins s2 σ H2 (fun o H3 => o = some 0 ∧ H3 = H2) I2 ⟨0, rfl, rfl, rfl⟩) fun vu s3 ⟨u, H3, I3, pu, eu, e3⟩ => ?_
  subst eu e3
  refine thn (hst.run pins s3 σ H3 (fun o H4 => o = some (-1) ∧ H4 = H3) I3 ⟨1, rfl, -1, rfl, rfl, rfl⟩) fun vs s4 ⟨o, H4, I4, ps, eo, e4⟩ => ?_
  subst eo e4
  have I5 : Inv X pins σ H4 { s4 with heap := s4.heap.push { cls := .type "slice", data := .fields #[vl, vu, vs] } } := I4.kept (t' := s4.toks) fun b ob q => Heap.get?_push_of_some _ q
  obtain ⟨a, xs, ex, hx, q⟩ := q1
  subst ex
  cases r1
  obtain ⟨its, r, ht, hz⟩ := I5.tuple hx
  have hlen := r.length
  show wpAny (model X.prog X.w) X.A (subscriptTail e (.Slice none (some (.Constant (.int 0) k0 p0)) (some (.UnaryOp .USub (.Constant (.int 1) k p1) p2)) p3) (.ref a) (.ref s4.heap.objs.size)) (EP X pins σ Q) X.xe { s4 with heap := s4.heap.push { cls := .type "slice", data := .fields #[vl, vu, vs] } }
  refine tail_any (ops := [.ref a, .ref s4.heap.objs.size]) ht.typeIs (PyProof.Rows.slot_tuple_getitem.lookup) ?_ (by with_unfolding_all rfl)
  refine item_tupRev0 ht (Heap.IsSliceOf.new _ vl vu vs) pl pu ps ?_ (by rw [List.size_toArray]; omega)
  have J := tup_laid (t' := s4.toks) (h' := (s4.heap.push { cls := .type "slice", data := .fields #[vl, vu, vs] }).push (tupB (its.drop 1).reverse)) I5 (fun _ _ => Heap.get?_push_of_some _) (Nat.le_refl _) (Vals.drop1 r).reverse (by rw [List.length_reverse, List.length_drop]; omega) (Heap.get?_push_size _ rfl)
  exact ⟨.ref _, _, J, rfl, q _ _ I5.fresh⟩
def rv0D : D → Option D
  | .tuple ds => if immutAll ds = true then some (.tuple (ds.drop 1).reverse) else none
  | _ => none
theorem de_rev0 {k k0 : Nat} {p0 p1 p2 p3 : Pos} (he : DE X B M w e f m) : DE X B M w (.Subscript e (.Slice none (some (.Constant (.int 0) k0 p0)) (some (.UnaryOp .USub (.Constant (.int 1) k p1) p2)) p3) pos) (c1 rv0D f) .own := PE.mono (pe_rv0 he) fun σ H Q h => by
  obtain ⟨δ, o, r, δ', hR, hf, kk⟩ := h
  obtain ⟨d, h1, h2⟩ := c1_inv hf
  refine ⟨δ, o, d, δ', hR, h1, fun v H1 o1 p k1 R1 s1 r1 f1 c1 => ?_⟩
  have fin : Res X.K .own r H1 Q := fun z H4 p4 k4 r4 f4 c4 => kk z H4 o1 p4 (k1.trans s1 (Kp.all k4)) (R1.keep k4) s1 (r4 B) (fun a q => ⟨k1.there a (f4 a q), R1.fresh (f4 a q)⟩) c4
  cases r1.lent with
  | tup ha hb =>
    simp only [rv0D] at h2
    split at h2
    · rename_i hi
      cases h2
      exact ⟨_, _, rfl, TupF.sq ha, fun p its hp => fin.tup hp (RepAll.drop1 (immAll_F hb hi)).reverse⟩
    · cases h2
  | _ => cases h2
end
end Dn
namespace Lw
open PySem PySem.Spec PyProof.Rows L2 Dn Lb
noncomputable section

def topS (i : Nat) : Stmt := PySem.Challenge.pw_loopsclosed_k54_whole_sixteenths.main.body.getD i (.Pass ⟨0, 0, 0, 0⟩)
abbrev s_is_whole : Stmt := topS 1
abbrev s_is_number : Stmt := topS 2
abbrev s_added : Stmt := topS 6
abbrev s_taken_off : Stmt := topS 7
abbrev s_turned_spot : Stmt := topS 8
abbrev s_along : Stmt := topS 9
abbrev s_turn_of : Stmt := topS 14
abbrev s_step_of : Stmt := topS 15
abbrev s_pose_behind : Stmt := topS 16
abbrev s_poses_along : Stmt := topS 17
abbrev s_pose_after : Stmt := topS 18
abbrev s_is_closed : Stmt := topS 19
abbrev s_is_fine_spot : Stmt := topS 25
abbrev s_is_fine_piece : Stmt := topS 26
abbrev s_is_fine_track : Stmt := topS 27
abbrev s_fine_turned : Stmt := topS 28
abbrev s_fine_along : Stmt := topS 29
abbrev s_fine_added : Stmt := topS 30
abbrev s_fine_turn : Stmt := topS 31
abbrev s_fine_step : Stmt := topS 32
abbrev s_fine_pose_after : Stmt := topS 33
abbrev s_does_fine_close : Stmt := topS 34
abbrev s_fine_spot_of : Stmt := topS 35
abbrev s_halved : Stmt := topS 36
abbrev s_fine_other : Stmt := topS 37
abbrev s_fine_mirrored : Stmt := topS 38
abbrev s_fine_back : Stmt := topS 39
abbrev s__law_box : Stmt := topS 41
abbrev s__law_load : Stmt := topS 42
abbrev s__law_draw : Stmt := topS 43
abbrev s__law_same : Stmt := topS 44
abbrev s__law_bent : Stmt := topS 45
abbrev s__law_turned : Stmt := topS 46
abbrev s__law_walk : Stmt := topS 47
abbrev s__law_track : Stmt := topS 48
abbrev s__law_is_piece : Stmt := topS 49
abbrev s_law : Stmt := topS 50
def k_FINE_HEADINGS : D := .int 16
def k_FINE_KINDS : D := .tuple [.str "halfleft", .str "halfright", .str "left", .str "right", .str "straight"]
def k_FINE_START : D := .tuple [.int 0, .int 0, .int 0, .int 0, .int 0, .int 0, .int 0, .int 0]
def k_FINE_TURNS : D := .dict [(.str "halfleft", .int 1), (.str "halfright", .int (-1)), (.str "left", .int 2), (.str "right", .int (-2)), (.str "straight", .int 0)]
def k_LONGEST : D := .int 20
def k_MOST_PIECES : D := .int 200
/-- what the top has written -/
structure Tx [Wd] (K : PySem.W.Frag) (mg : Str → Option Value) : Prop where
  d_is_whole : Df K mg "is_whole" s_is_whole ["value"]
  d_is_number : Df K mg "is_number" s_is_number ["value", "least", "most"]
  d_added : Df K mg "added" s_added ["one", "other"]
  d_taken_off : Df K mg "taken_off" s_taken_off ["one", "other"]
  d_turned_spot : Df K mg "turned_spot" s_turned_spot ["spot", "k"]
  d_along : Df K mg "along" s_along ["heading", "n"]
  d_turn_of : Df K mg "turn_of" s_turn_of ["piece"]
  d_step_of : Df K mg "step_of" s_step_of ["piece", "heading"]
  d_pose_behind : Df K mg "pose_behind" s_pose_behind ["pose", "piece"]
  d_poses_along : Df K mg "poses_along" s_poses_along ["pose", "track"]
  d_pose_after : Df K mg "pose_after" s_pose_after ["pose", "track"]
  d_is_closed : Df K mg "is_closed" s_is_closed ["track"]
  d_is_fine_spot : Df K mg "is_fine_spot" s_is_fine_spot ["value"]
  d_is_fine_piece : Df K mg "is_fine_piece" s_is_fine_piece ["value"]
  d_is_fine_track : Df K mg "is_fine_track" s_is_fine_track ["value"]
  d_fine_turned : Df K mg "fine_turned" s_fine_turned ["spot", "k"]
  d_fine_along : Df K mg "fine_along" s_fine_along ["heading", "many"]
  d_fine_added : Df K mg "fine_added" s_fine_added ["one", "other"]
  d_fine_turn : Df K mg "fine_turn" s_fine_turn ["piece"]
  d_fine_step : Df K mg "fine_step" s_fine_step ["piece", "heading"]
  d_fine_pose_after : Df K mg "fine_pose_after" s_fine_pose_after ["pose", "track"]
  d_does_fine_close : Df K mg "does_fine_close" s_does_fine_close ["track"]
  d_fine_spot_of : Df K mg "fine_spot_of" s_fine_spot_of ["spot"]
  d_halved : Df K mg "halved" s_halved ["track"]
  d_fine_other : Df K mg "fine_other" s_fine_other ["piece"]
  d_fine_mirrored : Df K mg "fine_mirrored" s_fine_mirrored ["track"]
  d_fine_back : Df K mg "fine_back" s_fine_back ["track"]
  d__law_box : Df K mg "_law_box" s__law_box ["script"]
  d__law_load : Df K mg "_law_load" s__law_load ["box"]
  d__law_draw : Df K mg "_law_draw" s__law_draw ["box", "many"]
  d__law_same : Df K mg "_law_same" s__law_same ["a", "b"]
  d__law_bent : Df K mg "_law_bent" s__law_bent ["box", "value"]
  d__law_turned : Df K mg "_law_turned" s__law_turned ["spot", "k"]
  d__law_walk : Df K mg "_law_walk" s__law_walk ["track"]
  d__law_track : Df K mg "_law_track" s__law_track ["box", "most", "kinds"]
  d__law_is_piece : Df K mg "_law_is_piece" s__law_is_piece ["value"]
  d_law : Df K mg "law" s_law ["script"]
  k_FINE_HEADINGS : Kon K mg "FINE_HEADINGS" k_FINE_HEADINGS
  k_FINE_KINDS : Kon K mg "FINE_KINDS" k_FINE_KINDS
  k_FINE_START : Kon K mg "FINE_START" k_FINE_START
  k_FINE_TURNS : Kon K mg "FINE_TURNS" k_FINE_TURNS
  k_FIRST_POSE : Kon K mg "FIRST_POSE" k_FIRST_POSE
  k_HEADINGS : Kon K mg "HEADINGS" k_HEADINGS
  k_LONGEST : Kon K mg "LONGEST" k_LONGEST
  k_MOST_PIECES : Kon K mg "MOST_PIECES" k_MOST_PIECES
  z_all : mg "all" = none
  z_any : mg "any" = none
  z_bool : mg "bool" = none
  z_int : mg "int" = none
  z_isinstance : mg "isinstance" = none
  z_len : mg "len" = none
  z_list : mg "list" = none
  z_range : mg "range" = none
  z_str : mg "str" = none
  z_tuple : mg "tuple" = none
  z_zip : mg "zip" = none
section
variable [Wd] {P : Program} {K : PySem.W.Frag} {mg : Str → Option Value} {base : Heap}
theorem sc_is_whole : FnScope ["value"] ["value"] (defScope s_is_whole) := ⟨rfl, rfl, rfl, by decide +kernel, rfl, by decide +kernel, by decide +kernel⟩
theorem c_is_whole (T : Tx K mg) : Cl P Wd.w K mg base 1 "is_whole" [.frz] .frz F_is_whole := by
  exact Cl.of (M' := [some .frz]) T.d_is_whole sc_is_whole rfl rfl rfl fun f cdv A outer s H E B hr => (dss_cons (M1 := [some .frz]) (ds_ret (m := .frz) .nil rfl (de_and (de_isi (m := .frz) (T := "int") rfl rfl T.z_isinstance rfl T.z_int (by decide +kernel) (by decide +kernel) rfl (eV (m := .frz) 0 rfl rfl (.inl rfl) rfl rfl) rfl rfl rfl) (de_one (de_not (de_isi (m := .frz) (T := "bool") rfl rfl T.z_isinstance rfl T.z_bool (by decide +kernel) (by decide +kernel) rfl (eV (m := .frz) 0 rfl rfl (.inl rfl) rfl rfl) rfl rfl rfl))))) dss_nil)
theorem sc_is_number : FnScope ["value", "least", "most"] ["value", "least", "most"] (defScope s_is_number) := ⟨rfl, rfl, rfl, by decide +kernel, rfl, by decide +kernel, by decide +kernel⟩
theorem c_is_number (T : Tx K mg) : Cl P Wd.w K mg base 1 "is_number" [.frz, .frz, .frz] .frz F_is_number := by
  exact Cl.of (M' := [some .frz, some .frz, some .frz]) T.d_is_number sc_is_number rfl rfl rfl fun f cdv A outer s H E B hr => (dss_cons (M1 := [some .frz, some .frz, some .frz]) (ds_ret (m := .frz) .nil rfl (de_and (de_isi (m := .frz) (T := "int") rfl rfl T.z_isinstance rfl T.z_int (by decide +kernel) (by decide +kernel) rfl (eV (m := .frz) 0 rfl rfl (.inl rfl) rfl rfl) rfl rfl rfl) (de_and (de_not (de_isi (m := .frz) (T := "bool") rfl rfl T.z_isinstance rfl T.z_bool (by decide +kernel) (by decide +kernel) rfl (eV (m := .frz) 0 rfl rfl (.inl rfl) rfl rfl) rfl rfl rfl)) (de_one (de_chain (ma := .frz) (mb := .frz) rfl rfl o_le o_le (eV (m := .frz) 1 rfl rfl (.inl rfl) rfl rfl) (eV (m := .frz) 0 rfl rfl (.inl rfl) rfl rfl) (eV (m := .frz) 2 rfl rfl (.inl rfl) rfl rfl) (by with_unfolding_all rfl)))))) dss_nil)
theorem sc_added : FnScope ["one", "other", "a", "b"] ["one", "other"] (defScope s_added) := ⟨rfl, rfl, rfl, by decide +kernel, rfl, by decide +kernel, by decide +kernel⟩
theorem c_added (T : Tx K mg) : Cl P Wd.w K mg base 1 "added" [.frz, .frz] .frz F_added := by
  exact Cl.of (M' := [some .frz, some .frz, none, none]) T.d_added sc_added rfl rfl rfl fun f cdv A outer s H E B hr => (dss_cons (M1 := [some .frz, some .frz, none, none]) (ds_ret (m := .frz) .nil rfl (de_callTy b_tuple rfl T.z_tuple (by decide +kernel) (ms := [.own]) (da_cons (m := .own) rfl (de_lc (own := [("a", 2), ("b", 3)]) (M1 := [some .frz, some .frz, some .frz, some .frz]) (mi := .frz) rfl (by decide) rfl rfl sc_added.nd (di_zip (m := .frz) rfl rfl T.z_zip (da_cons (m := .frz) rfl (eV (m := .frz) 0 rfl rfl (.inl rfl) rfl rfl) (da_cons (m := .frz) rfl (eV (m := .frz) 1 rfl rfl (.inl rfl) rfl rfl) da_nil rfl) rfl) rfl rfl) (blkOk_by (N := ["one", "other", "a", "b"]) (sc := defScope s_added) (own := [("a", 2), ("b", 3)]) (by decide +kernel)) (fun _ _ _ _ _ => (dg_tup rfl (dgs_cons (gN (i := 2) (M := [some .frz, some .frz, none, none]) (mi := .frz) rfl sc_added.nd rfl (.inl rfl) (.inr rfl)) (dgs_cons (gN (i := 3) (M := [some .frz, some .frz, some .frz, none]) (mi := .frz) rfl sc_added.nd rfl (.inl rfl) (.inr rfl)) dgs_nil rfl) rfl) rfl rfl)) (fun _ _ _ _ _ => dts_nil) (fun _ _ _ _ _ => (DE.frzOf (de_op rfl o_add (eV (m := .frz) 2 rfl rfl (.inl rfl) rfl rfl) (eV (m := .frz) 3 rfl rfl (.inl rfl) rfl rfl)))) (fun _ => rfl)) da_nil rfl) (by decide +kernel) (by decide +kernel) rfl rfl)) dss_nil)
theorem sc_taken_off : FnScope ["one", "other", "a", "b"] ["one", "other"] (defScope s_taken_off) := ⟨rfl, rfl, rfl, by decide +kernel, rfl, by decide +kernel, by decide +kernel⟩
theorem c_taken_off (T : Tx K mg) : Cl P Wd.w K mg base 1 "taken_off" [.frz, .frz] .frz F_taken_off := by
  exact Cl.of (M' := [some .frz, some .frz, none, none]) T.d_taken_off sc_taken_off rfl rfl rfl fun f cdv A outer s H E B hr => (dss_cons (M1 := [some .frz, some .frz, none, none]) (ds_ret (m := .frz) .nil rfl (de_callTy b_tuple rfl T.z_tuple (by decide +kernel) (ms := [.own]) (da_cons (m := .own) rfl (de_lc (own := [("a", 2), ("b", 3)]) (M1 := [some .frz, some .frz, some .frz, some .frz]) (mi := .frz) rfl (by decide) rfl rfl sc_taken_off.nd (di_zip (m := .frz) rfl rfl T.z_zip (da_cons (m := .frz) rfl (eV (m := .frz) 0 rfl rfl (.inl rfl) rfl rfl) (da_cons (m := .frz) rfl (eV (m := .frz) 1 rfl rfl (.inl rfl) rfl rfl) da_nil rfl) rfl) rfl rfl) (blkOk_by (N := ["one", "other", "a", "b"]) (sc := defScope s_taken_off) (own := [("a", 2), ("b", 3)]) (by decide +kernel)) (fun _ _ _ _ _ => (dg_tup rfl (dgs_cons (gN (i := 2) (M := [some .frz, some .frz, none, none]) (mi := .frz) rfl sc_taken_off.nd rfl (.inl rfl) (.inr rfl)) (dgs_cons (gN (i := 3) (M := [some .frz, some .frz, some .frz, none]) (mi := .frz) rfl sc_taken_off.nd rfl (.inl rfl) (.inr rfl)) dgs_nil rfl) rfl) rfl rfl)) (fun _ _ _ _ _ => dts_nil) (fun _ _ _ _ _ => (de_op rfl o_sub (eV (m := .frz) 2 rfl rfl (.inl rfl) rfl rfl) (eV (m := .frz) 3 rfl rfl (.inl rfl) rfl rfl))) (fun _ => rfl)) da_nil rfl) (by decide +kernel) (by decide +kernel) rfl rfl)) dss_nil)
theorem sc_turned_spot : FnScope ["spot", "k", "_"] ["spot", "k"] (defScope s_turned_spot) := ⟨rfl, rfl, rfl, by decide +kernel, rfl, by decide +kernel, by decide +kernel⟩
theorem c_turned_spot (T : Tx K mg) : Cl P Wd.w K mg base 1 "turned_spot" [.frz, .frz] .frz F_turned_spot := by
  exact Cl.of (M' := [some .frz, some .frz, none]) T.d_turned_spot sc_turned_spot rfl rfl rfl fun f cdv A outer s H E B hr => (dss_cons (M1 := [some .frz, some .frz, none]) (ds_for (M := [some .frz, some .frz, none]) (M1 := [some .frz, some .frz, some .frz]) (mi := .frz) PassesOwn.never rfl (di_range1 rfl T.z_range (ms := [.frz]) (da_cons (m := .frz) rfl (de_op rfl o_mod (eV (m := .frz) 1 rfl rfl (.inl rfl) rfl rfl) (de_glob T.k_HEADINGS rfl rfl)) da_nil rfl) rfl) (gN (i := 2) (M := [some .frz, some .frz, none]) (mi := .frz) rfl sc_turned_spot.nd rfl (.inl rfl) (.inl rfl)) (dss_cons (M1 := [some .frz, some .frz, some .frz]) (ds_set (i := 0) (m := .frz) rfl sc_turned_spot.nd rfl (.inl rfl) (de_tup (ms := [.frz, .frz, .frz, .frz]) allF (by decide +kernel) (da_cons (m := .frz) rfl (de_un o_neg (de_ix (hr9 hr) rfl (ma := .frz) rfl (eV (m := .frz) 0 rfl rfl (.inl rfl) rfl rfl) de_int (fun _ _ => rfl))) (da_cons (m := .frz) rfl (de_ix (hr9 hr) rfl (ma := .frz) rfl (eV (m := .frz) 0 rfl rfl (.inl rfl) rfl rfl) de_int (fun _ _ => rfl)) (da_cons (m := .frz) rfl (de_ix (hr9 hr) rfl (ma := .frz) rfl (eV (m := .frz) 0 rfl rfl (.inl rfl) rfl rfl) de_int (fun _ _ => rfl)) (da_cons (m := .frz) rfl (de_ix (hr9 hr) rfl (ma := .frz) rfl (eV (m := .frz) 0 rfl rfl (.inl rfl) rfl rfl) de_int (fun _ _ => rfl)) da_nil rfl) rfl) rfl) rfl)) rfl (.inl rfl)) (DSs.fin (.cons (.same _) (.cons (.same _) (.cons (.dead _) .nil))) dss_nil)) (fun _ => rfl)) (dss_cons (M1 := [some .frz, some .frz, none]) (ds_ret (m := .frz) .nil rfl (eV (m := .frz) 0 rfl rfl (.inl rfl) rfl rfl)) dss_nil))
theorem sc_along : FnScope ["heading", "n"] ["heading", "n"] (defScope s_along) := ⟨rfl, rfl, rfl, by decide +kernel, rfl, by decide +kernel, by decide +kernel⟩
theorem c_along (T : Tx K mg) : Cl P Wd.w K mg base 2 "along" [.frz, .frz] .frz F_along := by
  have c_turned_spot := c_turned_spot (P := P) (base := base) T
  exact Cl.of (M' := [some .frz, some .frz]) T.d_along sc_along rfl rfl rfl fun f cdv A outer s H E B hr => (dss_cons (M1 := [some .frz, some .frz]) (ds_ret (m := .frz) .nil rfl (de_c c_turned_spot hr (by decide) (ms := [.frz, .frz]) rfl rfl (da_cons (m := .frz) rfl (de_tup (ms := [.frz, .frz, .frz, .frz]) allF (by decide +kernel) (da_cons (m := .frz) rfl (eV (m := .frz) 1 rfl rfl (.inl rfl) rfl rfl) (da_cons (m := .frz) rfl de_int (da_cons (m := .frz) rfl de_int (da_cons (m := .frz) rfl de_int da_nil rfl) rfl) rfl) rfl)) (da_cons (m := .frz) rfl (eV (m := .frz) 0 rfl rfl (.inl rfl) rfl rfl) da_nil rfl) rfl) rfl rfl rfl)) dss_nil)
theorem sc_turn_of : FnScope ["piece"] ["piece"] (defScope s_turn_of) := ⟨rfl, rfl, rfl, by decide +kernel, rfl, by decide +kernel, by decide +kernel⟩
theorem c_turn_of (T : Tx K mg) : Cl P Wd.w K mg base 1 "turn_of" [.frz] .frz F_turn_of := by
  exact Cl.of (M' := [some .frz]) T.d_turn_of sc_turn_of rfl rfl rfl fun f cdv A outer s H E B hr => (dss_cons (M1 := [some .frz]) (ds_ret (m := .frz) .nil rfl (de_dgV (m := .frz) (kds := [("left", .int 1), ("right", .int (-1)), ("straight", .int 0)]) hr.units (.cons pe_str pe_int (fun _ => .int _) (.cons pe_str pc_neg (fun _ => .int _) (.cons pe_str pe_int (fun _ => .int _) .nil))) rfl rfl (by simp) (by decide +kernel) (fun _ _ => rfl) (de_ix (hr9 hr) rfl (ma := .frz) rfl (eV (m := .frz) 0 rfl rfl (.inl rfl) rfl rfl) de_int (fun _ _ => rfl)))) dss_nil)
theorem sc_step_of : FnScope ["piece", "heading", "kind", "n"] ["piece", "heading"] (defScope s_step_of) := ⟨rfl, rfl, rfl, by decide +kernel, rfl, by decide +kernel, by decide +kernel⟩
theorem c_step_of (T : Tx K mg) : Cl P Wd.w K mg base 3 "step_of" [.frz, .frz] .frz F_step_of := by
  have c_along := c_along (P := P) (base := base) T
  have c_taken_off := c_taken_off (P := P) (base := base) T
  exact Cl.of (M' := [some .frz, some .frz, none, none]) T.d_step_of sc_step_of rfl rfl rfl fun f cdv A outer s H E B hr => (dss_cons (M1 := [some .frz, some .frz, some .frz, some .frz]) (ds_asg (m := .frz) (eV (m := .frz) 0 rfl rfl (.inl rfl) rfl rfl) (dg_tup rfl (dgs_cons (gN (i := 2) (M := [some .frz, some .frz, none, none]) (mi := .frz) rfl sc_step_of.nd rfl (.inl rfl) (.inl rfl)) (dgs_cons (gN (i := 3) (M := [some .frz, some .frz, some .frz, none]) (mi := .frz) rfl sc_step_of.nd rfl (.inl rfl) (.inl rfl)) dgs_nil rfl) rfl) rfl rfl) rfl rfl rfl) (dss_cons (M1 := [some .frz, some .frz, some .frz, some .frz]) (ds_if (M' := [some .frz, some .frz, some .frz, some .frz]) (dt_cmp (ma := .frz) rfl (o_eq hr.units) (eV (m := .frz) 2 rfl rfl (.inl rfl) rfl rfl) de_str (nomark _)) (dss_cons (M1 := [some .frz, some .frz, some .frz, some .frz]) (ds_ret (m := .frz) .nil rfl (de_c c_along hr (by decide) (ms := [.frz, .frz]) rfl rfl (da_cons (m := .frz) rfl (eV (m := .frz) 1 rfl rfl (.inl rfl) rfl rfl) (da_cons (m := .frz) rfl (eV (m := .frz) 3 rfl rfl (.inl rfl) rfl rfl) da_nil rfl) rfl) rfl rfl rfl)) dss_nil) dss_nil) (dss_cons (M1 := [some .frz, some .frz, some .frz, some .frz]) (ds_if (M' := [some .frz, some .frz, some .frz, some .frz]) (dt_cmp (ma := .frz) rfl (o_eq hr.units) (eV (m := .frz) 2 rfl rfl (.inl rfl) rfl rfl) de_str (nomark _)) (dss_cons (M1 := [some .frz, some .frz, some .frz, some .frz]) (ds_ret (m := .frz) .nil rfl (de_c c_taken_off hr (by decide) (ms := [.frz, .frz]) rfl rfl (da_cons (m := .frz) rfl (de_c c_along hr (by decide) (ms := [.frz, .frz]) rfl rfl (da_cons (m := .frz) rfl (DE.frzOf (de_op rfl o_add (eV (m := .frz) 1 rfl rfl (.inl rfl) rfl rfl) de_int)) (da_cons (m := .frz) rfl (eV (m := .frz) 3 rfl rfl (.inl rfl) rfl rfl) da_nil rfl) rfl) rfl rfl rfl) (da_cons (m := .frz) rfl (de_c c_along hr (by decide) (ms := [.frz, .frz]) rfl rfl (da_cons (m := .frz) rfl (DE.frzOf (de_op rfl o_add (eV (m := .frz) 1 rfl rfl (.inl rfl) rfl rfl) de_int)) (da_cons (m := .frz) rfl (eV (m := .frz) 3 rfl rfl (.inl rfl) rfl rfl) da_nil rfl) rfl) rfl rfl rfl) da_nil rfl) rfl) rfl rfl rfl)) dss_nil) dss_nil) (dss_cons (M1 := [some .frz, some .frz, none, none]) (ds_ret (m := .frz) .nil rfl (de_c c_taken_off hr (by decide) (ms := [.frz, .frz]) rfl rfl (da_cons (m := .frz) rfl (de_c c_along hr (by decide) (ms := [.frz, .frz]) rfl rfl (da_cons (m := .frz) rfl (DE.frzOf (de_op rfl o_add (eV (m := .frz) 1 rfl rfl (.inl rfl) rfl rfl) de_int)) (da_cons (m := .frz) rfl (eV (m := .frz) 3 rfl rfl (.inl rfl) rfl rfl) da_nil rfl) rfl) rfl rfl rfl) (da_cons (m := .frz) rfl (de_c c_along hr (by decide) (ms := [.frz, .frz]) rfl rfl (da_cons (m := .frz) rfl (DE.frzOf (de_op rfl o_add (eV (m := .frz) 1 rfl rfl (.inl rfl) rfl rfl) de_int)) (da_cons (m := .frz) rfl (eV (m := .frz) 3 rfl rfl (.inl rfl) rfl rfl) da_nil rfl) rfl) rfl rfl rfl) da_nil rfl) rfl) rfl rfl rfl)) dss_nil))))
theorem sc_pose_behind : FnScope ["pose", "piece", "spot", "heading"] ["pose", "piece"] (defScope s_pose_behind) := ⟨rfl, rfl, rfl, by decide +kernel, rfl, by decide +kernel, by decide +kernel⟩
theorem c_pose_behind (T : Tx K mg) : Cl P Wd.w K mg base 4 "pose_behind" [.frz, .frz] .frz F_pose_behind := by
  have c_added := c_added (P := P) (base := base) T
  have c_step_of := c_step_of (P := P) (base := base) T
  have c_turn_of := c_turn_of (P := P) (base := base) T
  exact Cl.of (M' := [some .frz, some .frz, none, none]) T.d_pose_behind sc_pose_behind rfl rfl rfl fun f cdv A outer s H E B hr => (dss_cons (M1 := [some .frz, some .frz, some .frz, some .frz]) (ds_asg (m := .frz) (eV (m := .frz) 0 rfl rfl (.inl rfl) rfl rfl) (dg_tup rfl (dgs_cons (gN (i := 2) (M := [some .frz, some .frz, none, none]) (mi := .frz) rfl sc_pose_behind.nd rfl (.inl rfl) (.inl rfl)) (dgs_cons (gN (i := 3) (M := [some .frz, some .frz, some .frz, none]) (mi := .frz) rfl sc_pose_behind.nd rfl (.inl rfl) (.inl rfl)) dgs_nil rfl) rfl) rfl rfl) rfl rfl rfl) (dss_cons (M1 := [some .frz, some .frz, none, none]) (ds_ret (m := .frz) .nil rfl (de_tup (ms := [.frz, .frz]) allF (by decide +kernel) (da_cons (m := .frz) rfl (de_c c_added hr (by decide) (ms := [.frz, .frz]) rfl rfl (da_cons (m := .frz) rfl (eV (m := .frz) 2 rfl rfl (.inl rfl) rfl rfl) (da_cons (m := .frz) rfl (de_c c_step_of hr (by decide) (ms := [.frz, .frz]) rfl rfl (da_cons (m := .frz) rfl (eV (m := .frz) 1 rfl rfl (.inl rfl) rfl rfl) (da_cons (m := .frz) rfl (eV (m := .frz) 3 rfl rfl (.inl rfl) rfl rfl) da_nil rfl) rfl) rfl rfl rfl) da_nil rfl) rfl) rfl rfl rfl) (da_cons (m := .frz) rfl (de_op rfl o_mod (de_op rfl o_add (eV (m := .frz) 3 rfl rfl (.inl rfl) rfl rfl) (de_c c_turn_of hr (by decide) (ms := [.frz]) rfl rfl (da_cons (m := .frz) rfl (eV (m := .frz) 1 rfl rfl (.inl rfl) rfl rfl) da_nil rfl) rfl rfl rfl)) (de_glob T.k_HEADINGS rfl rfl)) da_nil rfl) rfl))) dss_nil))
theorem sc_poses_along : FnScope ["pose", "track", "found", "piece"] ["pose", "track"] (defScope s_poses_along) := ⟨rfl, rfl, rfl, by decide +kernel, rfl, by decide +kernel, by decide +kernel⟩
theorem c_poses_along (T : Tx K mg) : Cl P Wd.w K mg base 5 "poses_along" [.frz, .frz] .frz F_poses_along := by
  have c_pose_behind := c_pose_behind (P := P) (base := base) T
  exact Cl.of (M' := [some .frz, some .frz, none, none]) T.d_poses_along sc_poses_along rfl rfl rfl fun f cdv A outer s H E B hr => (dss_cons (M1 := [some .frz, some .frz, some .own, none]) (ds_set (i := 2) (m := .own) rfl sc_poses_along.nd rfl (.inl rfl) (de_lst (ms := [.frz]) allF (by decide +kernel) (da_cons (m := .frz) rfl (eV (m := .frz) 0 rfl rfl (.inl rfl) rfl rfl) da_nil rfl)) rfl (.inl rfl)) (dss_cons (M1 := [some .frz, some .frz, some .own, none]) (ds_for (M := [some .frz, some .frz, some .own, none]) (M1 := [some .frz, some .frz, some .own, some .frz]) (mi := .frz) PassesOwn.never rfl (di_seq (eV (m := .frz) 1 rfl rfl (.inl rfl) rfl rfl)) (gN (i := 3) (M := [some .frz, some .frz, some .own, none]) (mi := .frz) rfl sc_poses_along.nd rfl (.inl rfl) (.inl rfl)) (dss_cons (M1 := [some .frz, some .frz, some .own, some .frz]) (sApp (i := 2) (m := .own) rfl rfl rfl (.inl rfl) rfl rfl (de_c c_pose_behind hr (by decide) (ms := [.frz, .frz]) rfl rfl (da_cons (m := .frz) rfl (de_ixO (hr9 hr) rfl (i := 2) (m := .own) rfl rfl (pe_var rfl (.inl rfl) rfl rfl) (de_un o_neg de_int) (fun _ _ => rfl)) (da_cons (m := .frz) rfl (eV (m := .frz) 3 rfl rfl (.inl rfl) rfl rfl) da_nil rfl) rfl) rfl rfl rfl) rfl (fun h1 h2 => pe_bm PySem.F.plainAttrs_list PySem.F.slot_list_append PySem.F.type_list_append mt_append h1 h2) rfl) (DSs.fin (.cons (.same _) (.cons (.same _) (.cons (.same _) (.cons (.dead _) .nil)))) dss_nil)) (fun _ => rfl)) (dss_cons (M1 := [some .frz, some .frz, none, none]) (ds_ret (m := .frz) .nil rfl (de_callTy b_tuple rfl T.z_tuple (by decide +kernel) (ms := [.len]) (da_cons (m := .len) rfl (eV (m := .own) 2 rfl rfl (.inl rfl) rfl rfl) da_nil rfl) (by decide +kernel) (by decide +kernel) rfl rfl)) dss_nil)))
theorem sc_pose_after : FnScope ["pose", "track"] ["pose", "track"] (defScope s_pose_after) := ⟨rfl, rfl, rfl, by decide +kernel, rfl, by decide +kernel, by decide +kernel⟩
theorem c_pose_after (T : Tx K mg) : Cl P Wd.w K mg base 6 "pose_after" [.frz, .frz] .frz F_pose_after := by
  have c_poses_along := c_poses_along (P := P) (base := base) T
  exact Cl.of (M' := [some .frz, some .frz]) T.d_pose_after sc_pose_after rfl rfl rfl fun f cdv A outer s H E B hr => (dss_cons (M1 := [some .frz, some .frz]) (ds_ret (m := .frz) .nil rfl (de_ix (hr9 hr) rfl (ma := .frz) rfl (de_c c_poses_along hr (by decide) (ms := [.frz, .frz]) rfl rfl (da_cons (m := .frz) rfl (eV (m := .frz) 0 rfl rfl (.inl rfl) rfl rfl) (da_cons (m := .frz) rfl (eV (m := .frz) 1 rfl rfl (.inl rfl) rfl rfl) da_nil rfl) rfl) rfl rfl rfl) (de_un o_neg de_int) (fun _ _ => rfl))) dss_nil)
theorem sc_is_closed : FnScope ["track"] ["track"] (defScope s_is_closed) := ⟨rfl, rfl, rfl, by decide +kernel, rfl, by decide +kernel, by decide +kernel⟩
theorem c_is_closed (T : Tx K mg) : Cl P Wd.w K mg base 7 "is_closed" [.frz] .frz F_is_closed := by
  have c_pose_after := c_pose_after (P := P) (base := base) T
  exact Cl.of (M' := [some .frz]) T.d_is_closed sc_is_closed rfl rfl rfl fun f cdv A outer s H E B hr => (dss_cons (M1 := [some .frz]) (ds_ret (m := .frz) .nil rfl (de_and (de_cmp (ma := .frz) rfl (o_ne hr.units) (eV (m := .frz) 0 rfl rfl (.inl rfl) rfl rfl) (de_tup (ms := []) (fun _ h => nomatch h) (by decide +kernel) da_nil) (nomark _)) (de_one (de_cmp (ma := .frz) rfl (o_eq hr.units) (de_c c_pose_after hr (by decide) (ms := [.frz, .frz]) rfl rfl (da_cons (m := .frz) rfl (de_glob T.k_FIRST_POSE rfl rfl) (da_cons (m := .frz) rfl (eV (m := .frz) 0 rfl rfl (.inl rfl) rfl rfl) da_nil rfl) rfl) rfl rfl rfl) (de_glob T.k_FIRST_POSE rfl rfl) (nomark _))))) dss_nil)
def e1_is_fine_spot : CE := (cN F_is_whole (aCons (rd 1) aNil))
def den_is_fine_spot : CS := (seqS (rtS (andV (isiW "tuple" (rd 0)) (andV (c2 eqD (cN lenD (aCons (rd 0) aNil)) (cst (.int 8))) (cN allD (aCons (lcV (seqI (rd 0)) (stS 1) [1] yesT e1_is_fine_spot) aNil))))) skip)
def F_is_fine_spot := fnF den_is_fine_spot 2 1
theorem sc_is_fine_spot : FnScope ["value", "part"] ["value"] (defScope s_is_fine_spot) := ⟨rfl, rfl, rfl, by decide +kernel, rfl, by decide +kernel, by decide +kernel⟩
theorem c_is_fine_spot (T : Tx K mg) : Cl P Wd.w K mg base 2 "is_fine_spot" [.frz] .frz F_is_fine_spot := by
  have c_is_whole := c_is_whole (P := P) (base := base) T
  exact Cl.of (M' := [some .frz, none]) T.d_is_fine_spot sc_is_fine_spot rfl rfl rfl fun f cdv A outer s H E B hr => (dss_cons (M1 := [some .frz, none]) (ds_ret (m := .frz) .nil rfl (de_and (de_isi (m := .frz) (T := "tuple") rfl rfl T.z_isinstance rfl T.z_tuple (by decide +kernel) (by decide +kernel) rfl (eV (m := .frz) 0 rfl rfl (.inl rfl) rfl rfl) rfl rfl rfl) (de_and (de_cmp (ma := .frz) rfl (o_eq hr.units) (de_callB (b_len rfl) rfl T.z_len (by decide +kernel) (ms := [.frz]) (da_cons (m := .frz) rfl (eV (m := .frz) 0 rfl rfl (.inl rfl) rfl rfl) da_nil rfl) (by decide +kernel) (by decide +kernel) rfl rfl) de_int (nomark _)) (de_one (de_callB (b_all rfl) rfl T.z_all (by decide +kernel) (ms := [.own]) (da_cons (m := .own) rfl (de_lc (own := [("part", 1)]) (M1 := [some .frz, some .frz]) (mi := .frz) rfl (by decide) rfl rfl sc_is_fine_spot.nd (di_seq (eV (m := .frz) 0 rfl rfl (.inl rfl) rfl rfl)) (blkOk_by (N := ["value", "part"]) (sc := defScope s_is_fine_spot) (own := [("part", 1)]) (by decide +kernel)) (fun _ _ _ _ _ => (gN (i := 1) (M := [some .frz, none]) (mi := .frz) rfl sc_is_fine_spot.nd rfl (.inl rfl) (.inr rfl))) (fun _ _ _ _ _ => dts_nil) (fun _ _ _ _ _ => (de_c c_is_whole hr (by decide) (ms := [.frz]) rfl rfl (da_cons (m := .frz) rfl (eV (m := .frz) 1 rfl rfl (.inl rfl) rfl rfl) da_nil rfl) rfl rfl rfl)) (fun _ => rfl)) da_nil rfl) (by decide +kernel) (by decide +kernel) rfl rfl))))) dss_nil)
def den_is_fine_piece : CS := (seqS (ifS (orT (notT (tst (isiW "tuple" (rd 0)))) (orT (tstB (c2 neD (cN lenD (aCons (rd 0) aNil)) (cst (.int 2)))) (notT (tst (isiW "str" (c2 ixD (rd 0) (cst (.int 0)))))))) (seqS (rtS (cst (.bool false))) skip) skip) (seqS (rtS (andV (c2 inD (c2 ixD (rd 0) (cst (.int 0))) (cst k_FINE_KINDS)) (cN F_is_number (aCons (c2 ixD (rd 0) (cst (.int 1))) (aCons (cst (.int 1)) (aCons (cst k_LONGEST) aNil)))))) skip))
def F_is_fine_piece := fnF den_is_fine_piece 1 1
theorem sc_is_fine_piece : FnScope ["value"] ["value"] (defScope s_is_fine_piece) := ⟨rfl, rfl, rfl, by decide +kernel, rfl, by decide +kernel, by decide +kernel⟩
theorem c_is_fine_piece (T : Tx K mg) : Cl P Wd.w K mg base 2 "is_fine_piece" [.frz] .frz F_is_fine_piece := by
  have c_is_number := c_is_number (P := P) (base := base) T
  exact Cl.of (M' := [some .frz]) T.d_is_fine_piece sc_is_fine_piece rfl rfl rfl fun f cdv A outer s H E B hr => (dss_cons (M1 := [some .frz]) (ds_if (M' := [some .frz]) (dt_bool (dw_or (dt_not (dt_val (m := .frz) (de_isi (m := .frz) (T := "tuple") rfl rfl T.z_isinstance rfl T.z_tuple (by decide +kernel) (by decide +kernel) rfl (eV (m := .frz) 0 rfl rfl (.inl rfl) rfl rfl) rfl rfl rfl) (fun _ => rfl))) (dw_or (dt_cmp (ma := .frz) rfl (o_ne hr.units) (de_callB (b_len rfl) rfl T.z_len (by decide +kernel) (ms := [.frz]) (da_cons (m := .frz) rfl (eV (m := .frz) 0 rfl rfl (.inl rfl) rfl rfl) da_nil rfl) (by decide +kernel) (by decide +kernel) rfl rfl) de_int (nomark _)) (dw_or1 (dt_not (dt_val (m := .frz) (de_isi (m := .frz) (T := "str") rfl rfl T.z_isinstance rfl T.z_str (by decide +kernel) (by decide +kernel) rfl (de_ix (hr9 hr) rfl (ma := .frz) rfl (eV (m := .frz) 0 rfl rfl (.inl rfl) rfl rfl) de_int (fun _ _ => rfl)) rfl rfl rfl) (fun _ => rfl))))))) (dss_cons (M1 := [some .frz]) (ds_ret (m := .frz) .nil rfl de_bl) dss_nil) dss_nil) (dss_cons (M1 := [some .frz]) (ds_ret (m := .frz) .nil rfl (de_and (de_cmp (ma := .frz) rfl (o_in (hr65 hr) rfl) (de_ix (hr9 hr) rfl (ma := .frz) rfl (eV (m := .frz) 0 rfl rfl (.inl rfl) rfl rfl) de_int (fun _ _ => rfl)) (de_glob T.k_FINE_KINDS rfl rfl) (by with_unfolding_all rfl)) (de_one (de_c c_is_number hr (by decide) (ms := [.frz, .frz, .frz]) rfl rfl (da_cons (m := .frz) rfl (de_ix (hr9 hr) rfl (ma := .frz) rfl (eV (m := .frz) 0 rfl rfl (.inl rfl) rfl rfl) de_int (fun _ _ => rfl)) (da_cons (m := .frz) rfl de_int (da_cons (m := .frz) rfl (de_glob T.k_LONGEST rfl rfl) da_nil rfl) rfl) rfl) rfl rfl rfl)))) dss_nil))
def e1_is_fine_track : CE := (cN F_is_fine_piece (aCons (rd 1) aNil))
def den_is_fine_track : CS := (seqS (rtS (andV (isiW "tuple" (rd 0)) (andV (c2 leD (cN lenD (aCons (rd 0) aNil)) (cst k_MOST_PIECES)) (cN allD (aCons (lcV (seqI (rd 0)) (stS 1) [1] yesT e1_is_fine_track) aNil))))) skip)
def F_is_fine_track := fnF den_is_fine_track 2 1
theorem sc_is_fine_track : FnScope ["value", "piece"] ["value"] (defScope s_is_fine_track) := ⟨rfl, rfl, rfl, by decide +kernel, rfl, by decide +kernel, by decide +kernel⟩
theorem c_is_fine_track (T : Tx K mg) : Cl P Wd.w K mg base 3 "is_fine_track" [.frz] .frz F_is_fine_track := by
  have c_is_fine_piece := c_is_fine_piece (P := P) (base := base) T
  exact Cl.of (M' := [some .frz, none]) T.d_is_fine_track sc_is_fine_track rfl rfl rfl fun f cdv A outer s H E B hr => (dss_cons (M1 := [some .frz, none]) (ds_ret (m := .frz) .nil rfl (de_and (de_isi (m := .frz) (T := "tuple") rfl rfl T.z_isinstance rfl T.z_tuple (by decide +kernel) (by decide +kernel) rfl (eV (m := .frz) 0 rfl rfl (.inl rfl) rfl rfl) rfl rfl rfl) (de_and (de_cmp (ma := .frz) rfl o_le (de_callB (b_len rfl) rfl T.z_len (by decide +kernel) (ms := [.frz]) (da_cons (m := .frz) rfl (eV (m := .frz) 0 rfl rfl (.inl rfl) rfl rfl) da_nil rfl) (by decide +kernel) (by decide +kernel) rfl rfl) (de_glob T.k_MOST_PIECES rfl rfl) (nomark _)) (de_one (de_callB (b_all rfl) rfl T.z_all (by decide +kernel) (ms := [.own]) (da_cons (m := .own) rfl (de_lc (own := [("piece", 1)]) (M1 := [some .frz, some .frz]) (mi := .frz) rfl (by decide) rfl rfl sc_is_fine_track.nd (di_seq (eV (m := .frz) 0 rfl rfl (.inl rfl) rfl rfl)) (blkOk_by (N := ["value", "piece"]) (sc := defScope s_is_fine_track) (own := [("piece", 1)]) (by decide +kernel)) (fun _ _ _ _ _ => (gN (i := 1) (M := [some .frz, none]) (mi := .frz) rfl sc_is_fine_track.nd rfl (.inl rfl) (.inr rfl))) (fun _ _ _ _ _ => dts_nil) (fun _ _ _ _ _ => (de_c c_is_fine_piece hr (by decide) (ms := [.frz]) rfl rfl (da_cons (m := .frz) rfl (eV (m := .frz) 1 rfl rfl (.inl rfl) rfl rfl) da_nil rfl) rfl rfl rfl)) (fun _ => rfl)) da_nil rfl) (by decide +kernel) (by decide +kernel) rfl rfl))))) dss_nil)
def b1_fine_turned : CS := (seqS (asgS (stS 0) (c2 addD (tupV (aCons (c1 negD (c2 ixD (rd 0) (cst (.int 7)))) aNil)) (slV (rd 0) noPt (ptOf (cst (.int 7)))))) skip)
def den_fine_turned : CS := (seqS (forS (rgV rg1 (aCons (c2 modD (rd 1) (cst k_FINE_HEADINGS)) aNil)) (stS 2) b1_fine_turned) (seqS (rtS (rd 0)) skip))
def F_fine_turned := fnF den_fine_turned 3 2
theorem sc_fine_turned : FnScope ["spot", "k", "_"] ["spot", "k"] (defScope s_fine_turned) := ⟨rfl, rfl, rfl, by decide +kernel, rfl, by decide +kernel, by decide +kernel⟩
theorem c_fine_turned (T : Tx K mg) : Cl P Wd.w K mg base 1 "fine_turned" [.frz, .frz] .frz F_fine_turned := by
  exact Cl.of (M' := [some .frz, some .frz, none]) T.d_fine_turned sc_fine_turned rfl rfl rfl fun f cdv A outer s H E B hr => (dss_cons (M1 := [some .frz, some .frz, none]) (ds_for (M := [some .frz, some .frz, none]) (M1 := [some .frz, some .frz, some .frz]) (mi := .frz) PassesOwn.never rfl (di_range1 rfl T.z_range (ms := [.frz]) (da_cons (m := .frz) rfl (de_op rfl o_mod (eV (m := .frz) 1 rfl rfl (.inl rfl) rfl rfl) (de_glob T.k_FINE_HEADINGS rfl rfl)) da_nil rfl) rfl) (gN (i := 2) (M := [some .frz, some .frz, none]) (mi := .frz) rfl sc_fine_turned.nd rfl (.inl rfl) (.inl rfl)) (dss_cons (M1 := [some .frz, some .frz, some .frz]) (ds_set (i := 0) (m := .frz) rfl sc_fine_turned.nd rfl (.inl rfl) (DE.frzOf (de_op rfl o_add (de_tup (ms := [.frz]) allF (by decide +kernel) (da_cons (m := .frz) rfl (de_un o_neg (de_ix (hr9 hr) rfl (ma := .frz) rfl (eV (m := .frz) 0 rfl rfl (.inl rfl) rfl rfl) de_int (fun _ _ => rfl))) da_nil rfl)) (de_slice (ma := .frz) rfl rfl (eV (m := .frz) 0 rfl rfl (.inl rfl) rfl rfl) dp_none (dp_some (m := .frz) de_int)))) rfl (.inl rfl)) (DSs.fin (.cons (.same _) (.cons (.same _) (.cons (.dead _) .nil))) dss_nil)) (fun _ => rfl)) (dss_cons (M1 := [some .frz, some .frz, none]) (ds_ret (m := .frz) .nil rfl (eV (m := .frz) 0 rfl rfl (.inl rfl) rfl rfl)) dss_nil))
def den_fine_along : CS := (seqS (rtS (cN F_fine_turned (aCons (tupV (aCons (rd 1) (aCons (cst (.int 0)) (aCons (cst (.int 0)) (aCons (cst (.int 0)) (aCons (cst (.int 0)) (aCons (cst (.int 0)) (aCons (cst (.int 0)) (aCons (cst (.int 0)) aNil))))))))) (aCons (rd 0) aNil)))) skip)
def F_fine_along := fnF den_fine_along 2 2
theorem sc_fine_along : FnScope ["heading", "many"] ["heading", "many"] (defScope s_fine_along) := ⟨rfl, rfl, rfl, by decide +kernel, rfl, by decide +kernel, by decide +kernel⟩
theorem c_fine_along (T : Tx K mg) : Cl P Wd.w K mg base 2 "fine_along" [.frz, .frz] .frz F_fine_along := by
  have c_fine_turned := c_fine_turned (P := P) (base := base) T
  exact Cl.of (M' := [some .frz, some .frz]) T.d_fine_along sc_fine_along rfl rfl rfl fun f cdv A outer s H E B hr => (dss_cons (M1 := [some .frz, some .frz]) (ds_ret (m := .frz) .nil rfl (de_c c_fine_turned hr (by decide) (ms := [.frz, .frz]) rfl rfl (da_cons (m := .frz) rfl (de_tup (ms := [.frz, .frz, .frz, .frz, .frz, .frz, .frz, .frz]) allF (by decide +kernel) (da_cons (m := .frz) rfl (eV (m := .frz) 1 rfl rfl (.inl rfl) rfl rfl) (da_cons (m := .frz) rfl de_int (da_cons (m := .frz) rfl de_int (da_cons (m := .frz) rfl de_int (da_cons (m := .frz) rfl de_int (da_cons (m := .frz) rfl de_int (da_cons (m := .frz) rfl de_int (da_cons (m := .frz) rfl de_int da_nil rfl) rfl) rfl) rfl) rfl) rfl) rfl) rfl)) (da_cons (m := .frz) rfl (eV (m := .frz) 0 rfl rfl (.inl rfl) rfl rfl) da_nil rfl) rfl) rfl rfl rfl)) dss_nil)
def e1_fine_added : CE := (c2 addD (rd 2) (rd 3))
def den_fine_added : CS := (seqS (rtS (cN tupleD (aCons (lcV (rgV zipD (aCons (rd 0) (aCons (rd 1) aNil))) (tgT 2 (tCons' (stS 2) (tCons' (stS 3) tNil'))) [2, 3] yesT e1_fine_added) aNil))) skip)
def F_fine_added := fnF den_fine_added 4 2
theorem sc_fine_added : FnScope ["one", "other", "a", "b"] ["one", "other"] (defScope s_fine_added) := ⟨rfl, rfl, rfl, by decide +kernel, rfl, by decide +kernel, by decide +kernel⟩
theorem c_fine_added (T : Tx K mg) : Cl P Wd.w K mg base 1 "fine_added" [.frz, .frz] .frz F_fine_added := by
  exact Cl.of (M' := [some .frz, some .frz, none, none]) T.d_fine_added sc_fine_added rfl rfl rfl fun f cdv A outer s H E B hr => (dss_cons (M1 := [some .frz, some .frz, none, none]) (ds_ret (m := .frz) .nil rfl (de_callTy b_tuple rfl T.z_tuple (by decide +kernel) (ms := [.own]) (da_cons (m := .own) rfl (de_lc (own := [("a", 2), ("b", 3)]) (M1 := [some .frz, some .frz, some .frz, some .frz]) (mi := .frz) rfl (by decide) rfl rfl sc_fine_added.nd (di_zip (m := .frz) rfl rfl T.z_zip (da_cons (m := .frz) rfl (eV (m := .frz) 0 rfl rfl (.inl rfl) rfl rfl) (da_cons (m := .frz) rfl (eV (m := .frz) 1 rfl rfl (.inl rfl) rfl rfl) da_nil rfl) rfl) rfl rfl) (blkOk_by (N := ["one", "other", "a", "b"]) (sc := defScope s_fine_added) (own := [("a", 2), ("b", 3)]) (by decide +kernel)) (fun _ _ _ _ _ => (dg_tup rfl (dgs_cons (gN (i := 2) (M := [some .frz, some .frz, none, none]) (mi := .frz) rfl sc_fine_added.nd rfl (.inl rfl) (.inr rfl)) (dgs_cons (gN (i := 3) (M := [some .frz, some .frz, some .frz, none]) (mi := .frz) rfl sc_fine_added.nd rfl (.inl rfl) (.inr rfl)) dgs_nil rfl) rfl) rfl rfl)) (fun _ _ _ _ _ => dts_nil) (fun _ _ _ _ _ => (DE.frzOf (de_op rfl o_add (eV (m := .frz) 2 rfl rfl (.inl rfl) rfl rfl) (eV (m := .frz) 3 rfl rfl (.inl rfl) rfl rfl)))) (fun _ => rfl)) da_nil rfl) (by decide +kernel) (by decide +kernel) rfl rfl)) dss_nil)
def den_fine_turn : CS := (seqS (rtS (c2 ixD (cst k_FINE_TURNS) (c2 ixD (rd 0) (cst (.int 0))))) skip)
def F_fine_turn := fnF den_fine_turn 1 1
theorem sc_fine_turn : FnScope ["piece"] ["piece"] (defScope s_fine_turn) := ⟨rfl, rfl, rfl, by decide +kernel, rfl, by decide +kernel, by decide +kernel⟩
theorem c_fine_turn (T : Tx K mg) : Cl P Wd.w K mg base 1 "fine_turn" [.frz] .frz F_fine_turn := by
  exact Cl.of (M' := [some .frz]) T.d_fine_turn sc_fine_turn rfl rfl rfl fun f cdv A outer s H E B hr => (dss_cons (M1 := [some .frz]) (ds_ret (m := .frz) .nil rfl (de_ix (hr9 hr) rfl (ma := .frz) rfl (de_glob T.k_FINE_TURNS rfl rfl) (de_ix (hr9 hr) rfl (ma := .frz) rfl (eV (m := .frz) 0 rfl rfl (.inl rfl) rfl rfl) de_int (fun _ _ => rfl)) (fun _ _ => rfl))) dss_nil)
def den_fine_step : CS := (seqS (asgS (tgT 2 (tCons' (stS 2) (tCons' (stS 3) tNil'))) (rd 0)) (seqS (asgS (stS 4) (c2 ixD (cst k_FINE_TURNS) (rd 2))) (seqS (ifS (tstB (c2 eqD (rd 4) (cst (.int 0)))) (seqS (rtS (cN F_fine_along (aCons (rd 1) (aCons (rd 3) aNil)))) skip) skip) (seqS (asgS (stS 5) (ifV (tstB (c2 gtD (rd 4) (cst (.int 0)))) (cst (.int 4)) (cst (.int 12)))) (seqS (rtS (cN F_fine_added (aCons (cN F_fine_along (aCons (c2 addD (rd 1) (rd 5)) (aCons (rd 3) aNil))) (aCons (cN F_fine_along (aCons (c2 addD (c2 addD (rd 1) (rd 4)) (rd 5)) (aCons (c1 negD (rd 3)) aNil))) aNil)))) skip)))))
def F_fine_step := fnF den_fine_step 6 2
theorem sc_fine_step : FnScope ["piece", "heading", "kind", "n", "turn", "side"] ["piece", "heading"] (defScope s_fine_step) := ⟨rfl, rfl, rfl, by decide +kernel, rfl, by decide +kernel, by decide +kernel⟩
theorem c_fine_step (T : Tx K mg) : Cl P Wd.w K mg base 3 "fine_step" [.frz, .frz] .frz F_fine_step := by
  have c_fine_added := c_fine_added (P := P) (base := base) T
  have c_fine_along := c_fine_along (P := P) (base := base) T
  exact Cl.of (M' := [some .frz, some .frz, none, none, none, none]) T.d_fine_step sc_fine_step rfl rfl rfl fun f cdv A outer s H E B hr => (dss_cons (M1 := [some .frz, some .frz, some .frz, some .frz, none, none]) (ds_asg (m := .frz) (eV (m := .frz) 0 rfl rfl (.inl rfl) rfl rfl) (dg_tup rfl (dgs_cons (gN (i := 2) (M := [some .frz, some .frz, none, none, none, none]) (mi := .frz) rfl sc_fine_step.nd rfl (.inl rfl) (.inl rfl)) (dgs_cons (gN (i := 3) (M := [some .frz, some .frz, some .frz, none, none, none]) (mi := .frz) rfl sc_fine_step.nd rfl (.inl rfl) (.inl rfl)) dgs_nil rfl) rfl) rfl rfl) rfl rfl rfl) (dss_cons (M1 := [some .frz, some .frz, some .frz, some .frz, some .frz, none]) (ds_set (i := 4) (m := .frz) rfl sc_fine_step.nd rfl (.inl rfl) (de_ix (hr9 hr) rfl (ma := .frz) rfl (de_glob T.k_FINE_TURNS rfl rfl) (eV (m := .frz) 2 rfl rfl (.inl rfl) rfl rfl) (fun _ _ => rfl)) rfl (.inl rfl)) (dss_cons (M1 := [some .frz, some .frz, some .frz, some .frz, some .frz, none]) (ds_if (M' := [some .frz, some .frz, some .frz, some .frz, some .frz, none]) (dt_cmp (ma := .frz) rfl (o_eq hr.units) (eV (m := .frz) 4 rfl rfl (.inl rfl) rfl rfl) de_int (nomark _)) (dss_cons (M1 := [some .frz, some .frz, some .frz, some .frz, some .frz, none]) (ds_ret (m := .frz) .nil rfl (de_c c_fine_along hr (by decide) (ms := [.frz, .frz]) rfl rfl (da_cons (m := .frz) rfl (eV (m := .frz) 1 rfl rfl (.inl rfl) rfl rfl) (da_cons (m := .frz) rfl (eV (m := .frz) 3 rfl rfl (.inl rfl) rfl rfl) da_nil rfl) rfl) rfl rfl rfl)) dss_nil) dss_nil) (dss_cons (M1 := [some .frz, some .frz, some .frz, some .frz, some .frz, some .frz]) (ds_set (i := 5) (m := .frz) rfl sc_fine_step.nd rfl (.inl rfl) (de_if (dt_cmp (ma := .frz) rfl o_gt (eV (m := .frz) 4 rfl rfl (.inl rfl) rfl rfl) de_int (nomark _)) de_int de_int) rfl (.inl rfl)) (dss_cons (M1 := [some .frz, some .frz, none, none, none, none]) (ds_ret (m := .frz) .nil rfl (de_c c_fine_added hr (by decide) (ms := [.frz, .frz]) rfl rfl (da_cons (m := .frz) rfl (de_c c_fine_along hr (by decide) (ms := [.frz, .frz]) rfl rfl (da_cons (m := .frz) rfl (DE.frzOf (de_op rfl o_add (eV (m := .frz) 1 rfl rfl (.inl rfl) rfl rfl) (eV (m := .frz) 5 rfl rfl (.inl rfl) rfl rfl))) (da_cons (m := .frz) rfl (eV (m := .frz) 3 rfl rfl (.inl rfl) rfl rfl) da_nil rfl) rfl) rfl rfl rfl) (da_cons (m := .frz) rfl (de_c c_fine_along hr (by decide) (ms := [.frz, .frz]) rfl rfl (da_cons (m := .frz) rfl (DE.frzOf (de_op rfl o_add (de_op rfl o_add (eV (m := .frz) 1 rfl rfl (.inl rfl) rfl rfl) (eV (m := .frz) 4 rfl rfl (.inl rfl) rfl rfl)) (eV (m := .frz) 5 rfl rfl (.inl rfl) rfl rfl))) (da_cons (m := .frz) rfl (de_un o_neg (eV (m := .frz) 3 rfl rfl (.inl rfl) rfl rfl)) da_nil rfl) rfl) rfl rfl rfl) da_nil rfl) rfl) rfl rfl rfl)) dss_nil)))))
def b1_fine_pose_after : CS := (seqS (asgS (stS 2) (cN F_fine_added (aCons (rd 2) (aCons (cN F_fine_step (aCons (rd 4) (aCons (rd 3) aNil))) aNil)))) (seqS (asgS (stS 3) (c2 modD (c2 addD (rd 3) (c2 ixD (cst k_FINE_TURNS) (c2 ixD (rd 4) (cst (.int 0))))) (cst k_FINE_HEADINGS))) skip))
def den_fine_pose_after : CS := (seqS (asgS (tgT 2 (tCons' (stS 2) (tCons' (stS 3) tNil'))) (rd 0)) (seqS (forS (seqI (rd 1)) (stS 4) b1_fine_pose_after) (seqS (rtS (tupV (aCons (rd 2) (aCons (rd 3) aNil)))) skip)))
def F_fine_pose_after := fnF den_fine_pose_after 5 2
theorem sc_fine_pose_after : FnScope ["pose", "track", "spot", "heading", "piece"] ["pose", "track"] (defScope s_fine_pose_after) := ⟨rfl, rfl, rfl, by decide +kernel, rfl, by decide +kernel, by decide +kernel⟩
theorem c_fine_pose_after (T : Tx K mg) : Cl P Wd.w K mg base 4 "fine_pose_after" [.frz, .frz] .frz F_fine_pose_after := by
  have c_fine_added := c_fine_added (P := P) (base := base) T
  have c_fine_step := c_fine_step (P := P) (base := base) T
  exact Cl.of (M' := [some .frz, some .frz, none, none, none]) T.d_fine_pose_after sc_fine_pose_after rfl rfl rfl fun f cdv A outer s H E B hr => (dss_cons (M1 := [some .frz, some .frz, some .frz, some .frz, none]) (ds_asg (m := .frz) (eV (m := .frz) 0 rfl rfl (.inl rfl) rfl rfl) (dg_tup rfl (dgs_cons (gN (i := 2) (M := [some .frz, some .frz, none, none, none]) (mi := .frz) rfl sc_fine_pose_after.nd rfl (.inl rfl) (.inl rfl)) (dgs_cons (gN (i := 3) (M := [some .frz, some .frz, some .frz, none, none]) (mi := .frz) rfl sc_fine_pose_after.nd rfl (.inl rfl) (.inl rfl)) dgs_nil rfl) rfl) rfl rfl) rfl rfl rfl) (dss_cons (M1 := [some .frz, some .frz, some .frz, some .frz, none]) (ds_for (M := [some .frz, some .frz, some .frz, some .frz, none]) (M1 := [some .frz, some .frz, some .frz, some .frz, some .frz]) (mi := .frz) PassesOwn.never rfl (di_seq (eV (m := .frz) 1 rfl rfl (.inl rfl) rfl rfl)) (gN (i := 4) (M := [some .frz, some .frz, some .frz, some .frz, none]) (mi := .frz) rfl sc_fine_pose_after.nd rfl (.inl rfl) (.inl rfl)) (dss_cons (M1 := [some .frz, some .frz, some .frz, some .frz, some .frz]) (ds_set (i := 2) (m := .frz) rfl sc_fine_pose_after.nd rfl (.inl rfl) (de_c c_fine_added hr (by decide) (ms := [.frz, .frz]) rfl rfl (da_cons (m := .frz) rfl (eV (m := .frz) 2 rfl rfl (.inl rfl) rfl rfl) (da_cons (m := .frz) rfl (de_c c_fine_step hr (by decide) (ms := [.frz, .frz]) rfl rfl (da_cons (m := .frz) rfl (eV (m := .frz) 4 rfl rfl (.inl rfl) rfl rfl) (da_cons (m := .frz) rfl (eV (m := .frz) 3 rfl rfl (.inl rfl) rfl rfl) da_nil rfl) rfl) rfl rfl rfl) da_nil rfl) rfl) rfl rfl rfl) rfl (.inl rfl)) (dss_cons (M1 := [some .frz, some .frz, some .frz, some .frz, some .frz]) (ds_set (i := 3) (m := .frz) rfl sc_fine_pose_after.nd rfl (.inl rfl) (de_op rfl o_mod (de_op rfl o_add (eV (m := .frz) 3 rfl rfl (.inl rfl) rfl rfl) (de_ix (hr9 hr) rfl (ma := .frz) rfl (de_glob T.k_FINE_TURNS rfl rfl) (de_ix (hr9 hr) rfl (ma := .frz) rfl (eV (m := .frz) 4 rfl rfl (.inl rfl) rfl rfl) de_int (fun _ _ => rfl)) (fun _ _ => rfl))) (de_glob T.k_FINE_HEADINGS rfl rfl)) rfl (.inl rfl)) (DSs.fin (.cons (.same _) (.cons (.same _) (.cons (.same _) (.cons (.same _) (.cons (.dead _) .nil))))) dss_nil))) (fun _ => rfl)) (dss_cons (M1 := [some .frz, some .frz, none, none, none]) (ds_ret (m := .frz) .nil rfl (de_tup (ms := [.frz, .frz]) allF (by decide +kernel) (da_cons (m := .frz) rfl (eV (m := .frz) 2 rfl rfl (.inl rfl) rfl rfl) (da_cons (m := .frz) rfl (eV (m := .frz) 3 rfl rfl (.inl rfl) rfl rfl) da_nil rfl) rfl))) dss_nil)))
def den_does_fine_close : CS := (seqS (rtS (andV (c2 neD (rd 0) (tupV aNil)) (c2 eqD (cN F_fine_pose_after (aCons (tupV (aCons (cst k_FINE_START) (aCons (cst (.int 0)) aNil))) (aCons (rd 0) aNil))) (tupV (aCons (cst k_FINE_START) (aCons (cst (.int 0)) aNil)))))) skip)
def F_does_fine_close := fnF den_does_fine_close 1 1
theorem sc_does_fine_close : FnScope ["track"] ["track"] (defScope s_does_fine_close) := ⟨rfl, rfl, rfl, by decide +kernel, rfl, by decide +kernel, by decide +kernel⟩
theorem c_does_fine_close (T : Tx K mg) : Cl P Wd.w K mg base 5 "does_fine_close" [.frz] .frz F_does_fine_close := by
  have c_fine_pose_after := c_fine_pose_after (P := P) (base := base) T
  exact Cl.of (M' := [some .frz]) T.d_does_fine_close sc_does_fine_close rfl rfl rfl fun f cdv A outer s H E B hr => (dss_cons (M1 := [some .frz]) (ds_ret (m := .frz) .nil rfl (de_and (de_cmp (ma := .frz) rfl (o_ne hr.units) (eV (m := .frz) 0 rfl rfl (.inl rfl) rfl rfl) (de_tup (ms := []) (fun _ h => nomatch h) (by decide +kernel) da_nil) (nomark _)) (de_one (de_cmp (ma := .frz) rfl (o_eq hr.units) (de_c c_fine_pose_after hr (by decide) (ms := [.frz, .frz]) rfl rfl (da_cons (m := .frz) rfl (de_tup (ms := [.frz, .frz]) allF (by decide +kernel) (da_cons (m := .frz) rfl (de_glob T.k_FINE_START rfl rfl) (da_cons (m := .frz) rfl de_int da_nil rfl) rfl)) (da_cons (m := .frz) rfl (eV (m := .frz) 0 rfl rfl (.inl rfl) rfl rfl) da_nil rfl) rfl) rfl rfl rfl) (de_tup (ms := [.frz, .frz]) allF (by decide +kernel) (da_cons (m := .frz) rfl (de_glob T.k_FINE_START rfl rfl) (da_cons (m := .frz) rfl de_int da_nil rfl) rfl)) (nomark _))))) dss_nil)
def den_fine_spot_of : CS := (seqS (rtS (tupV (aCons (c2 ixD (rd 0) (cst (.int 0))) (aCons (cst (.int 0)) (aCons (c2 ixD (rd 0) (cst (.int 1))) (aCons (cst (.int 0)) (aCons (c2 ixD (rd 0) (cst (.int 2))) (aCons (cst (.int 0)) (aCons (c2 ixD (rd 0) (cst (.int 3))) (aCons (cst (.int 0)) aNil)))))))))) skip)
def F_fine_spot_of := fnF den_fine_spot_of 1 1
theorem sc_fine_spot_of : FnScope ["spot"] ["spot"] (defScope s_fine_spot_of) := ⟨rfl, rfl, rfl, by decide +kernel, rfl, by decide +kernel, by decide +kernel⟩
theorem c_fine_spot_of (T : Tx K mg) : Cl P Wd.w K mg base 1 "fine_spot_of" [.frz] .frz F_fine_spot_of := by
  exact Cl.of (M' := [some .frz]) T.d_fine_spot_of sc_fine_spot_of rfl rfl rfl fun f cdv A outer s H E B hr => (dss_cons (M1 := [some .frz]) (ds_ret (m := .frz) .nil rfl (de_tup (ms := [.frz, .frz, .frz, .frz, .frz, .frz, .frz, .frz]) allF (by decide +kernel) (da_cons (m := .frz) rfl (de_ix (hr9 hr) rfl (ma := .frz) rfl (eV (m := .frz) 0 rfl rfl (.inl rfl) rfl rfl) de_int (fun _ _ => rfl)) (da_cons (m := .frz) rfl de_int (da_cons (m := .frz) rfl (de_ix (hr9 hr) rfl (ma := .frz) rfl (eV (m := .frz) 0 rfl rfl (.inl rfl) rfl rfl) de_int (fun _ _ => rfl)) (da_cons (m := .frz) rfl de_int (da_cons (m := .frz) rfl (de_ix (hr9 hr) rfl (ma := .frz) rfl (eV (m := .frz) 0 rfl rfl (.inl rfl) rfl rfl) de_int (fun _ _ => rfl)) (da_cons (m := .frz) rfl de_int (da_cons (m := .frz) rfl (de_ix (hr9 hr) rfl (ma := .frz) rfl (eV (m := .frz) 0 rfl rfl (.inl rfl) rfl rfl) de_int (fun _ _ => rfl)) (da_cons (m := .frz) rfl de_int da_nil rfl) rfl) rfl) rfl) rfl) rfl) rfl) rfl))) dss_nil)
def b1_halved : CS := (seqS (ifS (tstB (c2 inD (rd 2) (tupV (aCons (cst (.str "left")) (aCons (cst (.str "right")) aNil))))) (seqS (exL 1 (c2 mulD (lstV (aCons (tupV (aCons (c2 addD (cst (.str "half")) (rd 2)) (aCons (rd 3) aNil))) aNil)) (cst (.int 2)))) skip) (seqS (apS 1 (tupV (aCons (rd 2) (aCons (rd 3) aNil)))) skip)) skip)
def den_halved : CS := (seqS (asgS (stS 1) (lstV aNil)) (seqS (forS (seqI (rd 0)) (tgT 2 (tCons' (stS 2) (tCons' (stS 3) tNil'))) b1_halved) (seqS (rtS (cN tupleD (aCons (rd 1) aNil))) skip)))
def F_halved := fnF den_halved 4 1
theorem sc_halved : FnScope ["track", "found", "kind", "n"] ["track"] (defScope s_halved) := ⟨rfl, rfl, rfl, by decide +kernel, rfl, by decide +kernel, by decide +kernel⟩
theorem c_halved (T : Tx K mg) : Cl P Wd.w K mg base 1 "halved" [.frz] .frz F_halved := by
  exact Cl.of (M' := [some .frz, none, none, none]) T.d_halved sc_halved rfl rfl rfl fun f cdv A outer s H E B hr => (dss_cons (M1 := [some .frz, some .own, none, none]) (ds_set (i := 1) (m := .own) rfl sc_halved.nd rfl (.inl rfl) (de_lst (ms := []) allF (by decide +kernel) da_nil) rfl (.inl rfl)) (dss_cons (M1 := [some .frz, some .own, none, none]) (ds_for (M := [some .frz, some .own, none, none]) (M1 := [some .frz, some .own, some .frz, some .frz]) (mi := .frz) PassesOwn.never rfl (di_seq (eV (m := .frz) 0 rfl rfl (.inl rfl) rfl rfl)) (dg_tup rfl (dgs_cons (gN (i := 2) (M := [some .frz, some .own, none, none]) (mi := .frz) rfl sc_halved.nd rfl (.inl rfl) (.inl rfl)) (dgs_cons (gN (i := 3) (M := [some .frz, some .own, some .frz, none]) (mi := .frz) rfl sc_halved.nd rfl (.inl rfl) (.inl rfl)) dgs_nil rfl) rfl) rfl rfl) (dss_cons (M1 := [some .frz, some .own, some .frz, some .frz]) (ds_if (M' := [some .frz, some .own, some .frz, some .frz]) (dt_cmp (ma := .frz) rfl (o_in (hr65 hr) rfl) (eV (m := .frz) 2 rfl rfl (.inl rfl) rfl rfl) (de_tup (ms := [.frz, .frz]) allF (by decide +kernel) (da_cons (m := .frz) rfl de_str (da_cons (m := .frz) rfl de_str da_nil rfl) rfl)) (by with_unfolding_all rfl)) (dss_cons (M1 := [some .frz, some .own, some .frz, some .frz]) (sExt (i := 1) (m := .own) rfl rfl rfl (.inl rfl) rfl rfl (de_op rfl o_mul (de_lst (ms := [.frz]) allF (by decide +kernel) (da_cons (m := .frz) rfl (de_tup (ms := [.frz, .frz]) allF (by decide +kernel) (da_cons (m := .frz) rfl (DE.frzOf (de_op rfl o_add de_str (eV (m := .frz) 2 rfl rfl (.inl rfl) rfl rfl))) (da_cons (m := .frz) rfl (eV (m := .frz) 3 rfl rfl (.inl rfl) rfl rfl) da_nil rfl) rfl)) da_nil rfl)) de_int) rfl (fun h1 h2 => pe_bm PySem.F.plainAttrs_list PySem.F.slot_list_extend PySem.F.type_list_extend mt_extend h1 h2) rfl) dss_nil) (dss_cons (M1 := [some .frz, some .own, some .frz, some .frz]) (sApp (i := 1) (m := .own) rfl rfl rfl (.inl rfl) rfl rfl (de_tup (ms := [.frz, .frz]) allF (by decide +kernel) (da_cons (m := .frz) rfl (eV (m := .frz) 2 rfl rfl (.inl rfl) rfl rfl) (da_cons (m := .frz) rfl (eV (m := .frz) 3 rfl rfl (.inl rfl) rfl rfl) da_nil rfl) rfl)) rfl (fun h1 h2 => pe_bm PySem.F.plainAttrs_list PySem.F.slot_list_append PySem.F.type_list_append mt_append h1 h2) rfl) dss_nil)) (DSs.fin (.cons (.same _) (.cons (.same _) (.cons (.dead _) (.cons (.dead _) .nil)))) dss_nil)) (fun _ => rfl)) (dss_cons (M1 := [some .frz, none, none, none]) (ds_ret (m := .frz) .nil rfl (de_callTy b_tuple rfl T.z_tuple (by decide +kernel) (ms := [.len]) (da_cons (m := .len) rfl (eV (m := .own) 1 rfl rfl (.inl rfl) rfl rfl) da_nil rfl) (by decide +kernel) (by decide +kernel) rfl rfl)) dss_nil)))
def den_fine_other : CS := (seqS (asgS (stS 1) (c2 ixD (rd 0) (cst (.int 0)))) (seqS (ifS (tstB (c2 eqD (rd 1) (cst (.str "straight")))) (seqS (rtS (rd 0)) skip) skip) (seqS (rtS (tupV (aCons (ifV (tstB (c2 inD (cst (.str "left")) (rd 1))) (c1 (repD "left" "right") (rd 1)) (c1 (repD "right" "left") (rd 1))) (aCons (c2 ixD (rd 0) (cst (.int 1))) aNil)))) skip)))
def F_fine_other := fnF den_fine_other 2 1
theorem sc_fine_other : FnScope ["piece", "kind"] ["piece"] (defScope s_fine_other) := ⟨rfl, rfl, rfl, by decide +kernel, rfl, by decide +kernel, by decide +kernel⟩
theorem c_fine_other (T : Tx K mg) : Cl P Wd.w K mg base 1 "fine_other" [.frz] .frz F_fine_other := by
  exact Cl.of (M' := [some .frz, none]) T.d_fine_other sc_fine_other rfl rfl rfl fun f cdv A outer s H E B hr => (dss_cons (M1 := [some .frz, some .frz]) (ds_set (i := 1) (m := .frz) rfl sc_fine_other.nd rfl (.inl rfl) (de_ix (hr9 hr) rfl (ma := .frz) rfl (eV (m := .frz) 0 rfl rfl (.inl rfl) rfl rfl) de_int (fun _ _ => rfl)) rfl (.inl rfl)) (dss_cons (M1 := [some .frz, some .frz]) (ds_if (M' := [some .frz, some .frz]) (dt_cmp (ma := .frz) rfl (o_eq hr.units) (eV (m := .frz) 1 rfl rfl (.inl rfl) rfl rfl) de_str (nomark _)) (dss_cons (M1 := [some .frz, some .frz]) (ds_ret (m := .frz) .nil rfl (eV (m := .frz) 0 rfl rfl (.inl rfl) rfl rfl)) dss_nil) dss_nil) (dss_cons (M1 := [some .frz, none]) (ds_ret (m := .frz) .nil rfl (de_tup (ms := [.frz, .frz]) allF (by decide +kernel) (da_cons (m := .frz) rfl (de_ifIn (hr65 hr) rfl (m := .frz) (eV (m := .frz) 1 rfl rfl (.inl rfl) rfl rfl) (by with_unfolding_all rfl) (det_rep (m := .frz) (eV (m := .frz) 1 rfl rfl (.inl rfl) rfl rfl) (by decide +kernel) rfl rfl rfl) (det_rep (m := .frz) (eV (m := .frz) 1 rfl rfl (.inl rfl) rfl rfl) (by decide +kernel) rfl rfl rfl)) (da_cons (m := .frz) rfl (de_ix (hr9 hr) rfl (ma := .frz) rfl (eV (m := .frz) 0 rfl rfl (.inl rfl) rfl rfl) de_int (fun _ _ => rfl)) da_nil rfl) rfl))) dss_nil)))
def e1_fine_mirrored : CE := (cN F_fine_other (aCons (rd 1) aNil))
def den_fine_mirrored : CS := (seqS (rtS (cN tupleD (aCons (lcV (seqI (rd 0)) (stS 1) [1] yesT e1_fine_mirrored) aNil))) skip)
def F_fine_mirrored := fnF den_fine_mirrored 2 1
theorem sc_fine_mirrored : FnScope ["track", "piece"] ["track"] (defScope s_fine_mirrored) := ⟨rfl, rfl, rfl, by decide +kernel, rfl, by decide +kernel, by decide +kernel⟩
theorem c_fine_mirrored (T : Tx K mg) : Cl P Wd.w K mg base 2 "fine_mirrored" [.frz] .frz F_fine_mirrored := by
  have c_fine_other := c_fine_other (P := P) (base := base) T
  exact Cl.of (M' := [some .frz, none]) T.d_fine_mirrored sc_fine_mirrored rfl rfl rfl fun f cdv A outer s H E B hr => (dss_cons (M1 := [some .frz, none]) (ds_ret (m := .frz) .nil rfl (de_callTy b_tuple rfl T.z_tuple (by decide +kernel) (ms := [.own]) (da_cons (m := .own) rfl (de_lc (own := [("piece", 1)]) (M1 := [some .frz, some .frz]) (mi := .frz) rfl (by decide) rfl rfl sc_fine_mirrored.nd (di_seq (eV (m := .frz) 0 rfl rfl (.inl rfl) rfl rfl)) (blkOk_by (N := ["track", "piece"]) (sc := defScope s_fine_mirrored) (own := [("piece", 1)]) (by decide +kernel)) (fun _ _ _ _ _ => (gN (i := 1) (M := [some .frz, none]) (mi := .frz) rfl sc_fine_mirrored.nd rfl (.inl rfl) (.inr rfl))) (fun _ _ _ _ _ => dts_nil) (fun _ _ _ _ _ => (de_c c_fine_other hr (by decide) (ms := [.frz]) rfl rfl (da_cons (m := .frz) rfl (eV (m := .frz) 1 rfl rfl (.inl rfl) rfl rfl) da_nil rfl) rfl rfl rfl)) (fun _ => rfl)) da_nil rfl) (by decide +kernel) (by decide +kernel) rfl rfl)) dss_nil)
def den_fine_back : CS := (seqS (rtS (cN F_fine_mirrored (aCons (rvV (rd 0)) aNil))) skip)
def F_fine_back := fnF den_fine_back 1 1
theorem sc_fine_back : FnScope ["track"] ["track"] (defScope s_fine_back) := ⟨rfl, rfl, rfl, by decide +kernel, rfl, by decide +kernel, by decide +kernel⟩
theorem c_fine_back (T : Tx K mg) : Cl P Wd.w K mg base 3 "fine_back" [.frz] .frz F_fine_back := by
  have c_fine_mirrored := c_fine_mirrored (P := P) (base := base) T
  exact Cl.of (M' := [some .frz]) T.d_fine_back sc_fine_back rfl rfl rfl fun f cdv A outer s H E B hr => (dss_cons (M1 := [some .frz]) (ds_ret (m := .frz) .nil rfl (de_c c_fine_mirrored hr (by decide) (ms := [.frz]) rfl rfl (da_cons (m := .frz) rfl (DE.frzOf (de_rev (m := .frz) (eV (m := .frz) 0 rfl rfl (.inl rfl) rfl rfl))) da_nil rfl) rfl rfl rfl)) dss_nil)
theorem sc__law_box : FnScope ["script"] ["script"] (defScope s__law_box) := ⟨rfl, rfl, rfl, by decide +kernel, rfl, by decide +kernel, by decide +kernel⟩
theorem c__law_box (T : Tx K mg) : Cl P Wd.w K mg base 1 "_law_box" [.frz] .bx F__law_box := by
  exact Cl.ofR (M' := [some .frz]) T.d__law_box sc__law_box rfl rfl rfl fun f cdv A outer s H E B hr => (dss_cons (M1 := [some .frz]) (ds_ret (m := .bx) .nil rfl (de_box (de_callTy b_list rfl T.z_list (by decide +kernel) (ms := [.own]) (da_cons (m := .own) rfl (de_slice (ma := .frz) rfl rfl (eV (m := .frz) 0 rfl rfl (.inl rfl) rfl rfl) dp_none (dp_some (m := .frz) de_int)) da_nil rfl) (by decide +kernel) (by decide +kernel) rfl rfl) de_int (de_op rfl o_add de_int (de_callB (b_len rfl) rfl T.z_len (by decide +kernel) (ms := [.frz]) (da_cons (m := .frz) rfl (eV (m := .frz) 0 rfl rfl (.inl rfl) rfl rfl) da_nil rfl) (by decide +kernel) (by decide +kernel) rfl rfl)) rfl rfl rfl)) dss_nil)
theorem sc__law_load : FnScope ["box", "cells", "cell", "size", "first", "second"] ["box"] (defScope s__law_load) := ⟨rfl, rfl, rfl, by decide +kernel, rfl, by decide +kernel, by decide +kernel⟩
theorem c__law_load (T : Tx K mg) : ClB P Wd.w K mg base 1 "_law_load" [] .frz F__law_load := by
  exact ClB.of T.d__law_load sc__law_load rfl rfl rfl (by decide) fun f a c cdv A outer s H E B hr => DSs.fin (M' := [some (.bio a c), none, none, none, none, none]) (.cons (.same _) .nil) (dss_cons (M1 := [some (.bio a c), some (.bc c), none, none, none, none]) (ds_cells (i := 0) (j := 1) (C := c) rfl sc__law_load.nd rfl rfl (.inl rfl) (.inl rfl) (.inl rfl) rfl rfl (fun _ _ => rfl) rfl) (dss_cons (M1 := [some (.bio a c), some (.bc c), none, none, none, none]) (ds_if (M' := [some (.bio a c), some (.bc c), none, none, none, none]) (dt_cmp (ma := .frz) rfl o_gt (de_lenC rfl (i := 0) (j := 1) rfl rfl rfl (.inl rfl) rfl rfl rfl T.z_len rfl rfl) de_int (nomark _)) (dss_cons (M1 := [some (.bio a c), some (.bc c), some .frz, none, none, none]) (ds_set (i := 2) (m := .frz) rfl sc__law_load.nd rfl (.inl rfl) (de_callTy b_int rfl T.z_int (by decide +kernel) (ms := [.frz]) (da_cons (m := .frz) rfl (de_popC (i := 0) (j := 1) rfl rfl rfl (.inl rfl) rfl rfl rfl (fun h1 h2 => pe_bm PySem.F.plainAttrs_list PySem.F.slot_list_pop PySem.F.type_list_pop mt_popAt h1 h2)) da_nil rfl) (by decide +kernel) (by decide +kernel) rfl rfl) rfl (.inl rfl)) (dss_cons (M1 := [some (.bio a c), some (.bc c), some .frz, some .frz, none, none]) (ds_set (i := 3) (m := .frz) rfl sc__law_load.nd rfl (.inl rfl) (de_if (dt_cmp (ma := .frz) rfl o_ge (eV (m := .frz) 2 rfl rfl (.inl rfl) rfl rfl) de_int (nomark _)) (DE.frzOf (de_op rfl o_mul de_int (eV (m := .frz) 2 rfl rfl (.inl rfl) rfl rfl))) (de_op rfl o_sub (de_op rfl o_mul (de_un o_neg de_int) (eV (m := .frz) 2 rfl rfl (.inl rfl) rfl rfl)) de_int)) rfl (.inl rfl)) (dss_cons (M1 := [some (.bio a c), some (.bc c), some .frz, some .frz, none, none]) (ds_if (M' := [some (.bio a c), some (.bc c), some .frz, some .frz, none, none]) (dt_cmp (ma := .frz) rfl o_ge (eV (m := .frz) 3 rfl rfl (.inl rfl) rfl rfl) de_int (nomark _)) (dss_cons (M1 := [some (.bio a c), some (.bc c), some .frz, some .frz, none, none]) (ds_ret (m := .frz) (.cons (.same _) .nil) rfl (eV (m := .frz) 3 rfl rfl (.inl rfl) rfl rfl)) dss_nil) dss_nil) (dss_cons (M1 := [some (.bio a c), some (.bc c), some .frz, some .frz, none, none]) (ds_setB (i := 0) (m := (.bio a c)) rfl rfl (pe_var rfl (.inl rfl) rfl rfl) (de_op rfl o_mod (de_callTy b_int rfl T.z_int (by decide +kernel) (ms := [.own]) (da_cons (m := .own) rfl (de_op rfl o_add (de_op rfl o_add (de_op rfl o_mul (de_ix (hr9 hr) rfl (ma := .len) rfl (eV (m := (.bio a c)) 0 rfl rfl (.inl rfl) rfl rfl) de_int (fun _ _ => rfl)) de_int) (de_op rfl o_mul (eV (m := .frz) 3 rfl rfl (.inl rfl) rfl rfl) de_int)) de_int) da_nil rfl) (by decide +kernel) (by decide +kernel) rfl rfl) de_int) (by intro _; rfl) rfl rfl rfl) (DSs.fin (.cons (.same _) (.cons (.same _) (.cons (.dead _) (.cons (.dead _) (.cons (.same _) (.cons (.same _) .nil)))))) dss_nil))))) dss_nil) (dss_cons (M1 := [some (.bio a c), some (.bc c), none, none, some .frz, none]) (ds_set (i := 4) (m := .frz) rfl sc__law_load.nd rfl (.inl rfl) (de_op rfl o_mod (de_callTy b_int rfl T.z_int (by decide +kernel) (ms := [.own]) (da_cons (m := .own) rfl (de_op rfl o_add (de_op rfl o_mul (de_ix (hr9 hr) rfl (ma := .len) rfl (eV (m := (.bio a c)) 0 rfl rfl (.inl rfl) rfl rfl) de_int (fun _ _ => rfl)) de_int) de_int) da_nil rfl) (by decide +kernel) (by decide +kernel) rfl rfl) de_int) rfl (.inl rfl)) (dss_cons (M1 := [some (.bio a c), some (.bc c), none, none, some .frz, some .frz]) (ds_set (i := 5) (m := .frz) rfl sc__law_load.nd rfl (.inl rfl) (de_op rfl o_mod (de_callTy b_int rfl T.z_int (by decide +kernel) (ms := [.own]) (da_cons (m := .own) rfl (de_op rfl o_add (de_op rfl o_mul (eV (m := .frz) 4 rfl rfl (.inl rfl) rfl rfl) de_int) de_int) da_nil rfl) (by decide +kernel) (by decide +kernel) rfl rfl) de_int) rfl (.inl rfl)) (dss_cons (M1 := [some (.bio a c), some (.bc c), none, none, some .frz, some .frz]) (ds_setB (i := 0) (m := (.bio a c)) rfl rfl (pe_var rfl (.inl rfl) rfl rfl) (de_op rfl o_mod (de_callTy b_int rfl T.z_int (by decide +kernel) (ms := [.own]) (da_cons (m := .own) rfl (de_op rfl o_add (de_op rfl o_mul (eV (m := .frz) 5 rfl rfl (.inl rfl) rfl rfl) de_int) de_int) da_nil rfl) (by decide +kernel) (by decide +kernel) rfl rfl) de_int) (by intro _; rfl) rfl rfl rfl) (dss_cons (M1 := [some (.bio a c), none, none, none, none, none]) (ds_ret (m := .frz) (.cons (.same _) .nil) rfl (DE.frzOf (de_op rfl o_add (de_op rfl o_add (de_op rfl o_mul (eV (m := .frz) 4 rfl rfl (.inl rfl) rfl rfl) de_int) (de_op rfl o_mul (eV (m := .frz) 5 rfl rfl (.inl rfl) rfl rfl) de_int)) (de_ix (hr9 hr) rfl (ma := .len) rfl (eV (m := (.bio a c)) 0 rfl rfl (.inl rfl) rfl rfl) de_int (fun _ _ => rfl))))) dss_nil))))))
theorem sc__law_draw : FnScope ["box", "many", "digit"] ["box", "many"] (defScope s__law_draw) := ⟨rfl, rfl, rfl, by decide +kernel, rfl, by decide +kernel, by decide +kernel⟩
theorem c__law_draw (T : Tx K mg) : ClB P Wd.w K mg base 2 "_law_draw" [.frz] .frz F__law_draw := by
  have c__law_load := c__law_load (P := P) (base := base) T
  exact ClB.of T.d__law_draw sc__law_draw rfl rfl rfl (by decide) fun f a c cdv A outer s H E B hr => DSs.fin (M' := [some (.bio a c), some .frz, none]) (.cons (.same _) .nil) (dss_cons (M1 := [some (.bio a c), some .frz, none]) (ds_if (M' := [some (.bio a c), some .frz, none]) (dt_cmp (ma := .len) rfl (o_lt hr.units) (de_ix (hr9 hr) rfl (ma := .len) rfl (eV (m := (.bio a c)) 0 rfl rfl (.inl rfl) rfl rfl) de_int (fun _ _ => rfl)) (eV (m := .frz) 1 rfl rfl (.inl rfl) rfl rfl) (nomark _)) (dss_cons (M1 := [some (.bio a c), some .frz, none]) (ds_setB (i := 0) (m := (.bio a c)) rfl rfl (pe_var rfl (.inl rfl) rfl rfl) (de_bi c__law_load hr (by decide) rfl (m := (.bio a c)) (i := 0) rfl rfl rfl (.inl rfl) rfl da_nil rfl rfl rfl rfl rfl) (by intro _; rfl) rfl rfl rfl) dss_nil) dss_nil) (dss_cons (M1 := [some (.bio a c), some .frz, some .frz]) (ds_set (i := 2) (m := .frz) rfl sc__law_draw.nd rfl (.inl rfl) (de_op rfl o_mod (de_callTy b_int rfl T.z_int (by decide +kernel) (ms := [.len]) (da_cons (m := .len) rfl (de_ix (hr9 hr) rfl (ma := .len) rfl (eV (m := (.bio a c)) 0 rfl rfl (.inl rfl) rfl rfl) de_int (fun _ _ => rfl)) da_nil rfl) (by decide +kernel) (by decide +kernel) rfl rfl) (eV (m := .frz) 1 rfl rfl (.inl rfl) rfl rfl)) rfl (.inl rfl)) (dss_cons (M1 := [some (.bio a c), some .frz, some .frz]) (ds_setB (i := 0) (m := (.bio a c)) rfl rfl (pe_var rfl (.inl rfl) rfl rfl) (de_op rfl o_fdiv (de_ix (hr9 hr) rfl (ma := .len) rfl (eV (m := (.bio a c)) 0 rfl rfl (.inl rfl) rfl rfl) de_int (fun _ _ => rfl)) (eV (m := .frz) 1 rfl rfl (.inl rfl) rfl rfl)) (by intro _; rfl) rfl rfl rfl) (dss_cons (M1 := [some (.bio a c), some .frz, none]) (ds_ret (m := .frz) (.cons (.same _) .nil) rfl (eV (m := .frz) 2 rfl rfl (.inl rfl) rfl rfl)) dss_nil))))
theorem sc__law_same : FnScope ["a", "b", "k"] ["a", "b"] (defScope s__law_same) := ⟨rfl, rfl, rfl, by decide +kernel, rfl, by decide +kernel, by decide +kernel⟩
theorem c__law_same (T : Tx K mg) (n : Nat) : Cl P Wd.w K mg base (n + 0) "_law_same" [.frz, .frz] .frz (F__law_same n) := by
  induction n with
  | zero => exact (Cl.zero T.d__law_same).up (Nat.zero_le _)
  | succ n crec =>
    rw [Nat.add_right_comm]
    exact Cl.of T.d__law_same sc__law_same rfl rfl rfl fun f cdv A outer s H E B hr => (dss_cons (M1 := [some .frz, some .frz, none]) (ds_if (M' := [some .frz, some .frz, none]) (dt_bool (dw_or (dt_bool (dw_and (dt_val (m := .frz) (de_isi (m := .frz) (T := "tuple") rfl rfl T.z_isinstance rfl T.z_tuple (by decide +kernel) (by decide +kernel) rfl (eV (m := .frz) 0 rfl rfl (.inr (.inl rfl)) rfl rfl) rfl rfl rfl) (fun _ => rfl)) (dw_and1 (dt_val (m := .frz) (de_isi (m := .frz) (T := "tuple") rfl rfl T.z_isinstance rfl T.z_tuple (by decide +kernel) (by decide +kernel) rfl (eV (m := .frz) 1 rfl rfl (.inr (.inl rfl)) rfl rfl) rfl rfl rfl) (fun _ => rfl))))) (dw_or1 (dt_bool (dw_and (dt_val (m := .frz) (de_isi (m := .frz) (T := "list") rfl rfl T.z_isinstance rfl T.z_list (by decide +kernel) (by decide +kernel) rfl (eV (m := .frz) 0 rfl rfl (.inr (.inl rfl)) rfl rfl) rfl rfl rfl) (fun _ => rfl)) (dw_and1 (dt_val (m := .frz) (de_isi (m := .frz) (T := "list") rfl rfl T.z_isinstance rfl T.z_list (by decide +kernel) (by decide +kernel) rfl (eV (m := .frz) 1 rfl rfl (.inr (.inl rfl)) rfl rfl) rfl rfl rfl) (fun _ => rfl)))))))) (dss_cons (M1 := [some .frz, some .frz, none]) (ds_ret (m := .frz) .nil rfl (de_and (de_cmp (ma := .frz) rfl (o_eq hr.units) (de_callB (b_len rfl) rfl T.z_len (by decide +kernel) (ms := [.frz]) (da_cons (m := .frz) rfl (eV (m := .frz) 0 rfl rfl (.inr (.inl rfl)) rfl rfl) da_nil rfl) (by decide +kernel) (by decide +kernel) rfl rfl) (de_callB (b_len rfl) rfl T.z_len (by decide +kernel) (ms := [.frz]) (da_cons (m := .frz) rfl (eV (m := .frz) 1 rfl rfl (.inr (.inl rfl)) rfl rfl) da_nil rfl) (by decide +kernel) (by decide +kernel) rfl rfl) (nomark _)) (de_one (de_callB (b_all rfl) rfl T.z_all (by decide +kernel) (ms := [.own]) (da_cons (m := .own) rfl (de_lc (own := [("k", 2)]) (M1 := [some .frz, some .frz, some .frz]) (mi := .frz) rfl (by decide) rfl rfl sc__law_same.nd (di_range1 rfl T.z_range (ms := [.frz]) (da_cons (m := .frz) rfl (de_callB (b_len rfl) rfl T.z_len (by decide +kernel) (ms := [.frz]) (da_cons (m := .frz) rfl (eV (m := .frz) 0 rfl rfl (.inr (.inl rfl)) rfl rfl) da_nil rfl) (by decide +kernel) (by decide +kernel) rfl rfl) da_nil rfl) rfl) (blkOk_by (N := ["a", "b", "k"]) (sc := defScope s__law_same) (own := [("k", 2)]) (by decide +kernel)) (fun _ _ _ _ _ => (gN (i := 2) (M := [some .frz, some .frz, none]) (mi := .frz) rfl sc__law_same.nd rfl (.inl rfl) (.inr rfl))) (fun _ _ _ _ _ => dts_nil) (fun _ _ _ _ _ => (de_c crec hr (Nat.le_refl _) (ms := [.frz, .frz]) rfl rfl (da_cons (m := .frz) rfl (de_ix (hr9 hr) rfl (ma := .frz) rfl (eV (m := .frz) 0 rfl rfl (.inr (.inl rfl)) rfl rfl) (eV (m := .frz) 2 rfl rfl (.inl rfl) rfl rfl) (fun _ _ => rfl)) (da_cons (m := .frz) rfl (de_ix (hr9 hr) rfl (ma := .frz) rfl (eV (m := .frz) 1 rfl rfl (.inr (.inl rfl)) rfl rfl) (eV (m := .frz) 2 rfl rfl (.inl rfl) rfl rfl) (fun _ _ => rfl)) da_nil rfl) rfl) rfl rfl rfl)) (fun _ => rfl)) da_nil rfl) (by decide +kernel) (by decide +kernel) rfl rfl)))) dss_nil) dss_nil) (dss_cons (M1 := [some .frz, some .frz, none]) (ds_if (M' := [some .frz, some .frz, none]) (dt_bool (dw_or (dt_val (m := .frz) (de_isi (m := .frz) (T := "bool") rfl rfl T.z_isinstance rfl T.z_bool (by decide +kernel) (by decide +kernel) rfl (eV (m := .frz) 0 rfl rfl (.inr (.inl rfl)) rfl rfl) rfl rfl rfl) (fun _ => rfl)) (dw_or1 (dt_val (m := .frz) (de_isi (m := .frz) (T := "bool") rfl rfl T.z_isinstance rfl T.z_bool (by decide +kernel) (by decide +kernel) rfl (eV (m := .frz) 1 rfl rfl (.inr (.inl rfl)) rfl rfl) rfl rfl rfl) (fun _ => rfl))))) (dss_cons (M1 := [some .frz, some .frz, none]) (ds_ret (m := .frz) .nil rfl (de_and (de_isi (m := .frz) (T := "bool") rfl rfl T.z_isinstance rfl T.z_bool (by decide +kernel) (by decide +kernel) rfl (eV (m := .frz) 0 rfl rfl (.inr (.inl rfl)) rfl rfl) rfl rfl rfl) (de_and (de_isi (m := .frz) (T := "bool") rfl rfl T.z_isinstance rfl T.z_bool (by decide +kernel) (by decide +kernel) rfl (eV (m := .frz) 1 rfl rfl (.inr (.inl rfl)) rfl rfl) rfl rfl rfl) (de_one (de_cmp (ma := .frz) rfl (o_eq hr.units) (eV (m := .frz) 0 rfl rfl (.inr (.inl rfl)) rfl rfl) (eV (m := .frz) 1 rfl rfl (.inr (.inl rfl)) rfl rfl) (nomark _)))))) dss_nil) dss_nil) (dss_cons (M1 := [some .frz, some .frz, none]) (ds_if (M' := [some .frz, some .frz, none]) (dt_bool (dw_or (dt_bool (dw_and (dt_val (m := .frz) (de_isi (m := .frz) (T := "int") rfl rfl T.z_isinstance rfl T.z_int (by decide +kernel) (by decide +kernel) rfl (eV (m := .frz) 0 rfl rfl (.inr (.inl rfl)) rfl rfl) rfl rfl rfl) (fun _ => rfl)) (dw_and1 (dt_val (m := .frz) (de_isi (m := .frz) (T := "int") rfl rfl T.z_isinstance rfl T.z_int (by decide +kernel) (by decide +kernel) rfl (eV (m := .frz) 1 rfl rfl (.inr (.inl rfl)) rfl rfl) rfl rfl rfl) (fun _ => rfl))))) (dw_or1 (dt_bool (dw_and (dt_val (m := .frz) (de_isi (m := .frz) (T := "str") rfl rfl T.z_isinstance rfl T.z_str (by decide +kernel) (by decide +kernel) rfl (eV (m := .frz) 0 rfl rfl (.inr (.inl rfl)) rfl rfl) rfl rfl rfl) (fun _ => rfl)) (dw_and1 (dt_val (m := .frz) (de_isi (m := .frz) (T := "str") rfl rfl T.z_isinstance rfl T.z_str (by decide +kernel) (by decide +kernel) rfl (eV (m := .frz) 1 rfl rfl (.inr (.inl rfl)) rfl rfl) rfl rfl rfl) (fun _ => rfl)))))))) (dss_cons (M1 := [some .frz, some .frz, none]) (ds_ret (m := .frz) .nil rfl (de_cmp (ma := .frz) rfl (o_eq hr.units) (eV (m := .frz) 0 rfl rfl (.inr (.inl rfl)) rfl rfl) (eV (m := .frz) 1 rfl rfl (.inr (.inl rfl)) rfl rfl) (nomark _))) dss_nil) dss_nil) (dss_cons (M1 := [some .frz, some .frz, none]) (ds_ret (m := .frz) .nil rfl (de_and (de_cmp (ma := .frz) rfl o_is (eV (m := .frz) 0 rfl rfl (.inr (.inl rfl)) rfl rfl) de_non (nomark _)) (de_one (de_cmp (ma := .frz) rfl o_is (eV (m := .frz) 1 rfl rfl (.inr (.inl rfl)) rfl rfl) de_non (nomark _))))) dss_nil))))
def den__law_bent (rec : List D → List D → Option (D × List D)) : CS := (seqS (ifS (andT (tst (isiW "tuple" (rd 1))) (andT (tstB (c2 gtD (cN lenD (aCons (rd 1) aNil)) (cst (.int 0)))) (tstB (c2 gtD (ioV 0 F__law_draw (aCons (cst (.int 5)) aNil)) (cst (.int 0)))))) (seqS (asgS (stS 2) (ioV 0 F__law_draw (aCons (cN lenD (aCons (rd 1) aNil)) aNil))) (seqS (rtS (c2 addD (c2 addD (slV (rd 1) noPt (ptOf (rd 2))) (tupV (aCons (ioV 0 rec (aCons (c2 ixD (rd 1) (rd 2)) aNil)) aNil))) (slV (rd 1) (ptOf (c2 addD (rd 2) (cst (.int 1)))) noPt))) skip)) skip) (seqS (asgS (stS 3) (ioV 0 F__law_draw (aCons (cst (.int 8)) aNil))) (seqS (ifS (tst (isiW "tuple" (rd 1))) (seqS (rtS (c2 ixD (lstV (aCons (c2 addD (rd 1) (slV (rd 1) noPt (ptOf (cst (.int 1))))) (aCons (slV (rd 1) (ptOf (cst (.int 1))) noPt) (aCons (rvV (rd 1)) (aCons (c2 addD (rd 1) (tupV (aCons (cst (.int 0)) aNil))) (aCons (c2 addD (slV (rd 1) noPt (ptOf (cst (.int 1)))) (rd 1)) (aCons (slV (rd 1) noPt (ptOf (c1 negD (cst (.int 1))))) (aCons (cst .none) (aCons (slV (rd 1) noPt (ptOf (cst (.int 1)))) aNil))))))))) (rd 3))) skip) skip) (seqS (ifS (andT (tst (isiW "int" (rd 1))) (notT (tst (isiW "bool" (rd 1))))) (seqS (rtS (c2 ixD (lstV (aCons (c2 addD (rd 1) (cst (.int 1))) (aCons (c2 subD (rd 1) (cst (.int 1))) (aCons (c1 negD (rd 1)) (aCons (c2 eqD (rd 1) (cst (.int 1))) (aCons (cst .none) (aCons (cN strD (aCons (rd 1) aNil)) (aCons (tupV (aCons (rd 1) aNil)) (aCons (c2 addD (rd 1) (cst (.int 1001))) aNil))))))))) (rd 3))) skip) skip) (seqS (ifS (tst (isiW "str" (rd 1))) (seqS (rtS (c2 ixD (lstV (aCons (c2 addD (rd 1) (cst (.str "a"))) (aCons (slV (rd 1) (ptOf (cst (.int 1))) noPt) (aCons (cst (.str "any")) (aCons (c1 upD (rd 1)) (aCons (cst (.int 0)) (aCons (cst (.str "")) (aCons (c2 addD (rd 1) (cst (.str "z0z0z0z0"))) (aCons (tupV (aCons (rd 1) aNil)) aNil))))))))) (rd 3))) skip) skip) (seqS (rtS (c2 ixD (lstV (aCons (cst (.int 0)) (aCons (cst (.int 1)) (aCons (cst .none) (aCons (cst (.bool true)) (aCons (cst (.bool false)) (aCons (cst (.str "a")) (aCons (tupV aNil) (aCons (c1 negD (cst (.int 1))) aNil))))))))) (rd 3))) skip))))))
def F__law_bent : Nat → List D → List D → Option (D × List D)
  | 0 => fun _ _ => none
  | n + 1 => fnI (den__law_bent (F__law_bent n)) 4 2
theorem sc__law_bent : FnScope ["box", "value", "at", "pick"] ["box", "value"] (defScope s__law_bent) := ⟨rfl, rfl, rfl, by decide +kernel, rfl, by decide +kernel, by decide +kernel⟩
theorem c__law_bent (T : Tx K mg) (n : Nat) : ClB P Wd.w K mg base (n + 2) "_law_bent" [.frz] .frz (F__law_bent n) := by
  have c__law_draw := c__law_draw (P := P) (base := base) T
  induction n with
  | zero => exact (ClB.zero T.d__law_bent).up (Nat.zero_le _)
  | succ n crec =>
    rw [Nat.add_right_comm]
    exact ClB.of T.d__law_bent sc__law_bent rfl rfl rfl (by decide) fun f a c cdv A outer s H E B hr => DSs.fin (M' := [some (.bio a c), some .frz, none, none]) (.cons (.same _) .nil) (dss_cons (M1 := [some (.bio a c), some .frz, none, none]) (ds_if (M' := [some (.bio a c), some .frz, none, none]) (dt_bool (dw_and (dt_val (m := .frz) (de_isi (m := .frz) (T := "tuple") rfl rfl T.z_isinstance rfl T.z_tuple (by decide +kernel) (by decide +kernel) rfl (eV (m := .frz) 1 rfl rfl (.inl rfl) rfl rfl) rfl rfl rfl) (fun _ => rfl)) (dw_and (dt_cmp (ma := .frz) rfl o_gt (de_callB (b_len rfl) rfl T.z_len (by decide +kernel) (ms := [.frz]) (da_cons (m := .frz) rfl (eV (m := .frz) 1 rfl rfl (.inl rfl) rfl rfl) da_nil rfl) (by decide +kernel) (by decide +kernel) rfl rfl) de_int (nomark _)) (dw_and1 (dt_cmp (ma := .frz) rfl o_gt (de_bi c__law_draw hr (by omega) rfl (m := (.bio a c)) (i := 0) rfl rfl rfl (.inl rfl) rfl (da_cons (m := .frz) rfl de_int da_nil rfl) rfl rfl rfl rfl rfl) de_int (nomark _)))))) (dss_cons (M1 := [some (.bio a c), some .frz, some .frz, none]) (ds_set (i := 2) (m := .frz) rfl sc__law_bent.nd rfl (.inl rfl) (de_bi c__law_draw hr (by omega) rfl (m := (.bio a c)) (i := 0) rfl rfl rfl (.inl rfl) rfl (da_cons (m := .frz) rfl (de_callB (b_len rfl) rfl T.z_len (by decide +kernel) (ms := [.frz]) (da_cons (m := .frz) rfl (eV (m := .frz) 1 rfl rfl (.inl rfl) rfl rfl) da_nil rfl) (by decide +kernel) (by decide +kernel) rfl rfl) da_nil rfl) rfl rfl rfl rfl rfl) rfl (.inl rfl)) (dss_cons (M1 := [some (.bio a c), some .frz, none, none]) (ds_ret (m := .frz) (.cons (.same _) .nil) rfl (DE.frzOf (de_op rfl o_add (de_op rfl o_add (de_slice (ma := .frz) rfl rfl (eV (m := .frz) 1 rfl rfl (.inl rfl) rfl rfl) dp_none (dp_some (m := .frz) (eV (m := .frz) 2 rfl rfl (.inl rfl) rfl rfl))) (de_tup (ms := [.frz]) allF (by decide +kernel) (da_cons (m := .frz) rfl (de_bi crec hr (Nat.le_refl _) rfl (m := (.bio a c)) (i := 0) rfl rfl rfl (.inl rfl) rfl (da_cons (m := .frz) rfl (de_ix (hr9 hr) rfl (ma := .frz) rfl (eV (m := .frz) 1 rfl rfl (.inl rfl) rfl rfl) (eV (m := .frz) 2 rfl rfl (.inl rfl) rfl rfl) (fun _ _ => rfl)) da_nil rfl) rfl rfl rfl rfl rfl) da_nil rfl))) (de_slice (ma := .frz) rfl rfl (eV (m := .frz) 1 rfl rfl (.inl rfl) rfl rfl) (dp_some (m := .own) (de_op rfl o_add (eV (m := .frz) 2 rfl rfl (.inl rfl) rfl rfl) de_int)) dp_none)))) dss_nil)) dss_nil) (dss_cons (M1 := [some (.bio a c), some .frz, none, some .frz]) (ds_set (i := 3) (m := .frz) rfl sc__law_bent.nd rfl (.inl rfl) (de_bi c__law_draw hr (by omega) rfl (m := (.bio a c)) (i := 0) rfl rfl rfl (.inl rfl) rfl (da_cons (m := .frz) rfl de_int da_nil rfl) rfl rfl rfl rfl rfl) rfl (.inl rfl)) (dss_cons (M1 := [some (.bio a c), some .frz, none, some .frz]) (ds_if (M' := [some (.bio a c), some .frz, none, some .frz]) (dt_val (m := .frz) (de_isi (m := .frz) (T := "tuple") rfl rfl T.z_isinstance rfl T.z_tuple (by decide +kernel) (by decide +kernel) rfl (eV (m := .frz) 1 rfl rfl (.inl rfl) rfl rfl) rfl rfl rfl) (fun _ => rfl)) (dss_cons (M1 := [some (.bio a c), some .frz, none, some .frz]) (ds_ret (m := .frz) (.cons (.same _) .nil) rfl (de_ix (hr9 hr) rfl (ma := .own) rfl (de_lst (ms := [.frz, .frz, .frz, .frz, .frz, .frz, .frz, .frz]) allF (by decide +kernel) (da_cons (m := .frz) rfl (DE.frzOf (de_op rfl o_add (eV (m := .frz) 1 rfl rfl (.inl rfl) rfl rfl) (de_slice (ma := .frz) rfl rfl (eV (m := .frz) 1 rfl rfl (.inl rfl) rfl rfl) dp_none (dp_some (m := .frz) de_int)))) (da_cons (m := .frz) rfl (DE.frzOf (de_slice (ma := .frz) rfl rfl (eV (m := .frz) 1 rfl rfl (.inl rfl) rfl rfl) (dp_some (m := .frz) de_int) dp_none)) (da_cons (m := .frz) rfl (DE.frzOf (de_rev (m := .frz) (eV (m := .frz) 1 rfl rfl (.inl rfl) rfl rfl))) (da_cons (m := .frz) rfl (DE.frzOf (de_op rfl o_add (eV (m := .frz) 1 rfl rfl (.inl rfl) rfl rfl) (de_tup (ms := [.frz]) allF (by decide +kernel) (da_cons (m := .frz) rfl de_int da_nil rfl)))) (da_cons (m := .frz) rfl (DE.frzOf (de_op rfl o_add (de_slice (ma := .frz) rfl rfl (eV (m := .frz) 1 rfl rfl (.inl rfl) rfl rfl) dp_none (dp_some (m := .frz) de_int)) (eV (m := .frz) 1 rfl rfl (.inl rfl) rfl rfl))) (da_cons (m := .frz) rfl (DE.frzOf (de_slice (ma := .frz) rfl rfl (eV (m := .frz) 1 rfl rfl (.inl rfl) rfl rfl) dp_none (dp_some (m := .frz) (de_un o_neg de_int)))) (da_cons (m := .frz) rfl de_non (da_cons (m := .frz) rfl (DE.frzOf (de_slice (ma := .frz) rfl rfl (eV (m := .frz) 1 rfl rfl (.inl rfl) rfl rfl) dp_none (dp_some (m := .frz) de_int))) da_nil rfl) rfl) rfl) rfl) rfl) rfl) rfl) rfl)) (eV (m := .frz) 3 rfl rfl (.inl rfl) rfl rfl) (fun _ _ => rfl))) dss_nil) dss_nil) (dss_cons (M1 := [some (.bio a c), some .frz, none, some .frz]) (ds_if (M' := [some (.bio a c), some .frz, none, some .frz]) (dt_bool (dw_and (dt_val (m := .frz) (de_isi (m := .frz) (T := "int") rfl rfl T.z_isinstance rfl T.z_int (by decide +kernel) (by decide +kernel) rfl (eV (m := .frz) 1 rfl rfl (.inl rfl) rfl rfl) rfl rfl rfl) (fun _ => rfl)) (dw_and1 (dt_not (dt_val (m := .frz) (de_isi (m := .frz) (T := "bool") rfl rfl T.z_isinstance rfl T.z_bool (by decide +kernel) (by decide +kernel) rfl (eV (m := .frz) 1 rfl rfl (.inl rfl) rfl rfl) rfl rfl rfl) (fun _ => rfl)))))) (dss_cons (M1 := [some (.bio a c), some .frz, none, some .frz]) (ds_ret (m := .frz) (.cons (.same _) .nil) rfl (de_ix (hr9 hr) rfl (ma := .own) rfl (de_lst (ms := [.frz, .frz, .frz, .frz, .frz, .frz, .frz, .frz]) allF (by decide +kernel) (da_cons (m := .frz) rfl (DE.frzOf (de_op rfl o_add (eV (m := .frz) 1 rfl rfl (.inl rfl) rfl rfl) de_int)) (da_cons (m := .frz) rfl (de_op rfl o_sub (eV (m := .frz) 1 rfl rfl (.inl rfl) rfl rfl) de_int) (da_cons (m := .frz) rfl (de_un o_neg (eV (m := .frz) 1 rfl rfl (.inl rfl) rfl rfl)) (da_cons (m := .frz) rfl (de_cmp (ma := .frz) rfl (o_eq hr.units) (eV (m := .frz) 1 rfl rfl (.inl rfl) rfl rfl) de_int (nomark _)) (da_cons (m := .frz) rfl de_non (da_cons (m := .frz) rfl (de_callTy b_str rfl T.z_str (by decide +kernel) (ms := [.frz]) (da_cons (m := .frz) rfl (eV (m := .frz) 1 rfl rfl (.inl rfl) rfl rfl) da_nil rfl) (by decide +kernel) (by decide +kernel) rfl rfl) (da_cons (m := .frz) rfl (de_tup (ms := [.frz]) allF (by decide +kernel) (da_cons (m := .frz) rfl (eV (m := .frz) 1 rfl rfl (.inl rfl) rfl rfl) da_nil rfl)) (da_cons (m := .frz) rfl (DE.frzOf (de_op rfl o_add (eV (m := .frz) 1 rfl rfl (.inl rfl) rfl rfl) de_int)) da_nil rfl) rfl) rfl) rfl) rfl) rfl) rfl) rfl)) (eV (m := .frz) 3 rfl rfl (.inl rfl) rfl rfl) (fun _ _ => rfl))) dss_nil) dss_nil) (dss_cons (M1 := [some (.bio a c), some .frz, none, some .frz]) (ds_if (M' := [some (.bio a c), some .frz, none, some .frz]) (dt_val (m := .frz) (de_isi (m := .frz) (T := "str") rfl rfl T.z_isinstance rfl T.z_str (by decide +kernel) (by decide +kernel) rfl (eV (m := .frz) 1 rfl rfl (.inl rfl) rfl rfl) rfl rfl rfl) (fun _ => rfl)) (dss_cons (M1 := [some (.bio a c), some .frz, none, some .frz]) (ds_ret (m := .frz) (.cons (.same _) .nil) rfl (de_ix (hr9 hr) rfl (ma := .own) rfl (de_lst (ms := [.frz, .frz, .frz, .frz, .frz, .frz, .frz, .frz]) allF (by decide +kernel) (da_cons (m := .frz) rfl (DE.frzOf (de_op rfl o_add (eV (m := .frz) 1 rfl rfl (.inl rfl) rfl rfl) de_str)) (da_cons (m := .frz) rfl (DE.frzOf (de_slice (ma := .frz) rfl rfl (eV (m := .frz) 1 rfl rfl (.inl rfl) rfl rfl) (dp_some (m := .frz) de_int) dp_none)) (da_cons (m := .frz) rfl de_str (da_cons (m := .frz) rfl (de_upper (eV (m := .frz) 1 rfl rfl (.inl rfl) rfl rfl) rfl rfl) (da_cons (m := .frz) rfl de_int (da_cons (m := .frz) rfl de_str (da_cons (m := .frz) rfl (DE.frzOf (de_op rfl o_add (eV (m := .frz) 1 rfl rfl (.inl rfl) rfl rfl) de_str)) (da_cons (m := .frz) rfl (de_tup (ms := [.frz]) allF (by decide +kernel) (da_cons (m := .frz) rfl (eV (m := .frz) 1 rfl rfl (.inl rfl) rfl rfl) da_nil rfl)) da_nil rfl) rfl) rfl) rfl) rfl) rfl) rfl) rfl)) (eV (m := .frz) 3 rfl rfl (.inl rfl) rfl rfl) (fun _ _ => rfl))) dss_nil) dss_nil) (dss_cons (M1 := [some (.bio a c), some .frz, none, none]) (ds_ret (m := .frz) (.cons (.same _) .nil) rfl (de_ix (hr9 hr) rfl (ma := .own) rfl (de_lst (ms := [.frz, .frz, .frz, .frz, .frz, .frz, .frz, .frz]) allF (by decide +kernel) (da_cons (m := .frz) rfl de_int (da_cons (m := .frz) rfl de_int (da_cons (m := .frz) rfl de_non (da_cons (m := .frz) rfl de_bl (da_cons (m := .frz) rfl de_bl (da_cons (m := .frz) rfl de_str (da_cons (m := .frz) rfl (de_tup (ms := []) (fun _ h => nomatch h) (by decide +kernel) da_nil) (da_cons (m := .frz) rfl (de_un o_neg de_int) da_nil rfl) rfl) rfl) rfl) rfl) rfl) rfl) rfl)) (eV (m := .frz) 3 rfl rfl (.inl rfl) rfl rfl) (fun _ _ => rfl))) dss_nil))))))
def b1__law_turned : CS := (seqS (asgS (stS 2) (c2 addD (lstV (aCons (c1 negD (c2 ixD (rd 2) (cst (.int 7)))) aNil)) (slV (rd 2) noPt (ptOf (cst (.int 7)))))) skip)
def den__law_turned : CS := (seqS (asgS (stS 2) (cN listD (aCons (rd 0) aNil))) (seqS (forS (rgV rg1 (aCons (c2 subD (rd 1) (c2 mulD (c2 fdivD (rd 1) (cst (.int 16))) (cst (.int 16)))) aNil)) (stS 3) b1__law_turned) (seqS (rtS (cN tupleD (aCons (rd 2) aNil))) skip)))
def F__law_turned := fnF den__law_turned 4 2
theorem sc__law_turned : FnScope ["spot", "k", "found", "step"] ["spot", "k"] (defScope s__law_turned) := ⟨rfl, rfl, rfl, by decide +kernel, rfl, by decide +kernel, by decide +kernel⟩
theorem c__law_turned (T : Tx K mg) : Cl P Wd.w K mg base 1 "_law_turned" [.frz, .frz] .frz F__law_turned := by
  exact Cl.of (M' := [some .frz, some .frz, none, none]) T.d__law_turned sc__law_turned rfl rfl rfl fun f cdv A outer s H E B hr => (dss_cons (M1 := [some .frz, some .frz, some .frz, none]) (ds_set (i := 2) (m := .frz) rfl sc__law_turned.nd rfl (.inl rfl) (DE.frzOf (de_callTy b_list rfl T.z_list (by decide +kernel) (ms := [.frz]) (da_cons (m := .frz) rfl (eV (m := .frz) 0 rfl rfl (.inl rfl) rfl rfl) da_nil rfl) (by decide +kernel) (by decide +kernel) rfl rfl)) rfl (.inl rfl)) (dss_cons (M1 := [some .frz, some .frz, some .frz, none]) (ds_for (M := [some .frz, some .frz, some .frz, none]) (M1 := [some .frz, some .frz, some .frz, some .frz]) (mi := .frz) PassesOwn.never rfl (di_range1 rfl T.z_range (ms := [.frz]) (da_cons (m := .frz) rfl (de_op rfl o_sub (eV (m := .frz) 1 rfl rfl (.inl rfl) rfl rfl) (de_op rfl o_mul (de_op rfl o_fdiv (eV (m := .frz) 1 rfl rfl (.inl rfl) rfl rfl) de_int) de_int)) da_nil rfl) rfl) (gN (i := 3) (M := [some .frz, some .frz, some .frz, none]) (mi := .frz) rfl sc__law_turned.nd rfl (.inl rfl) (.inl rfl)) (dss_cons (M1 := [some .frz, some .frz, some .frz, some .frz]) (ds_set (i := 2) (m := .frz) rfl sc__law_turned.nd rfl (.inl rfl) (DE.frzOf (de_op rfl o_add (de_lst (ms := [.frz]) allF (by decide +kernel) (da_cons (m := .frz) rfl (de_un o_neg (de_ix (hr9 hr) rfl (ma := .frz) rfl (eV (m := .frz) 2 rfl rfl (.inl rfl) rfl rfl) de_int (fun _ _ => rfl))) da_nil rfl)) (de_slice (ma := .frz) rfl rfl (eV (m := .frz) 2 rfl rfl (.inl rfl) rfl rfl) dp_none (dp_some (m := .frz) de_int)))) rfl (.inl rfl)) (DSs.fin (.cons (.same _) (.cons (.same _) (.cons (.same _) (.cons (.dead _) .nil)))) dss_nil)) (fun _ => rfl)) (dss_cons (M1 := [some .frz, some .frz, none, none]) (ds_ret (m := .frz) .nil rfl (de_callTy b_tuple rfl T.z_tuple (by decide +kernel) (ms := [.frz]) (da_cons (m := .frz) rfl (eV (m := .frz) 2 rfl rfl (.inl rfl) rfl rfl) da_nil rfl) (by decide +kernel) (by decide +kernel) rfl rfl)) dss_nil)))
def e1__law_walk : CE := (c2 addD (rd 10) (rd 11))
def b2__law_walk : CS := (seqS (asgS (stS 2) (lcV (rgV zipM (aCons (rd 2) (aCons (rd 9) aNil))) (tgT 2 (tCons' (stS 10) (tCons' (stS 11) tNil'))) [10, 11] yesT e1__law_walk)) skip)
def b3__law_walk : CS := (seqS (asgS (stS 6) (tupV (aCons (rd 5) (aCons (cst (.int 0)) (aCons (cst (.int 0)) (aCons (cst (.int 0)) (aCons (cst (.int 0)) (aCons (cst (.int 0)) (aCons (cst (.int 0)) (aCons (cst (.int 0)) aNil)))))))))) (seqS (ifS (tstB (c2 eqD (rd 4) (cst (.str "straight")))) (seqS (asgS (stS 7) (lstV (aCons (cN F__law_turned (aCons (rd 6) (aCons (rd 3) aNil))) aNil))) skip) (seqS (asgS (stS 8) (ifV (tstB (c2 gtD (c2 ixD (rd 1) (rd 4)) (cst (.int 0)))) (cst (.int 4)) (cst (.int 12)))) (seqS (asgS (stS 7) (lstV (aCons (cN F__law_turned (aCons (rd 6) (aCons (c2 addD (rd 3) (rd 8)) aNil))) (aCons (cN F__law_turned (aCons (rd 6) (aCons (c2 addD (c2 addD (c2 addD (rd 3) (c2 ixD (rd 1) (rd 4))) (rd 8)) (cst (.int 8))) aNil))) aNil)))) skip))) (seqS (forS (seqI (rd 7)) (stS 9) b2__law_walk) (seqS (asgS (stS 3) (c2 addD (rd 3) (c2 ixD (rd 1) (rd 4)))) skip))))
def den__law_walk : CS := (seqS (asgS (stS 1) (dispV (pCons (cst (.str "halfleft")) (cst (.int 1)) (pCons (cst (.str "halfright")) (c1 negD (cst (.int 1))) (pCons (cst (.str "left")) (cst (.int 2)) (pCons (cst (.str "right")) (c1 negD (cst (.int 2))) (pCons (cst (.str "straight")) (cst (.int 0)) pNil))))))) (seqS (par2S 2 3 (c2 mulD (lstV (aCons (cst (.int 0)) aNil)) (cst (.int 8))) (cst (.int 0))) (seqS (forS (seqI (rd 0)) (tgT 2 (tCons' (stS 4) (tCons' (stS 5) tNil'))) b3__law_walk) (seqS (rtS (tupV (aCons (cN tupleD (aCons (rd 2) aNil)) (aCons (c2 subD (rd 3) (c2 mulD (c2 fdivD (rd 3) (cst (.int 16))) (cst (.int 16)))) aNil)))) skip))))
def F__law_walk := fnF den__law_walk 12 1
theorem sc__law_walk : FnScope ["track", "turns", "spot", "heading", "kind", "n", "unit", "rows", "side", "row", "a", "b"] ["track"] (defScope s__law_walk) := ⟨rfl, rfl, rfl, by decide +kernel, rfl, by decide +kernel, by decide +kernel⟩
theorem c__law_walk (T : Tx K mg) : Cl P Wd.w K mg base 2 "_law_walk" [.frz] .frz F__law_walk := by
  have c__law_turned := c__law_turned (P := P) (base := base) T
  exact Cl.of (M' := [some .frz, none, none, none, none, none, none, none, none, none, none, none]) T.d__law_walk sc__law_walk rfl rfl rfl fun f cdv A outer s H E B hr => (dss_cons (M1 := [some .frz, some .frz, none, none, none, none, none, none, none, none, none, none]) (ds_set (i := 1) (m := .frz) rfl sc__law_walk.nd rfl (.inl rfl) (DE.frzOf (de_disp (hr9 hr) rfl (dp_cons de_str de_int (dp_cons de_str (de_un o_neg de_int) (dp_cons de_str de_int (dp_cons de_str (de_un o_neg de_int) (dp_cons de_str de_int dp_nil))))) rfl rfl (by simp) (by decide))) rfl (.inl rfl)) (dss_cons (M1 := [some .frz, some .frz, some .frz, some .frz, none, none, none, none, none, none, none, none]) (ds_par2 (i := 2) (j := 3) (m1 := .frz) (m2 := .frz) rfl rfl rfl sc__law_walk.nd rfl rfl (by decide) rfl rfl (DE.frzOf (de_op rfl o_mul (de_lst (ms := [.frz]) allF (by decide +kernel) (da_cons (m := .frz) rfl de_int da_nil rfl)) de_int)) de_int rfl rfl rfl rfl) (dss_cons (M1 := [some .frz, some .frz, some .frz, some .frz, none, none, none, none, none, none, none, none]) (ds_for (M := [some .frz, some .frz, some .frz, some .frz, none, none, none, none, none, none, none, none]) (M1 := [some .frz, some .frz, some .frz, some .frz, some .frz, some .frz, none, none, none, none, none, none]) (mi := .frz) PassesOwn.never rfl (di_seq (eV (m := .frz) 0 rfl rfl (.inl rfl) rfl rfl)) (dg_tup rfl (dgs_cons (gN (i := 4) (M := [some .frz, some .frz, some .frz, some .frz, none, none, none, none, none, none, none, none]) (mi := .frz) rfl sc__law_walk.nd rfl (.inl rfl) (.inl rfl)) (dgs_cons (gN (i := 5) (M := [some .frz, some .frz, some .frz, some .frz, some .frz, none, none, none, none, none, none, none]) (mi := .frz) rfl sc__law_walk.nd rfl (.inl rfl) (.inl rfl)) dgs_nil rfl) rfl) rfl rfl) (dss_cons (M1 := [some .frz, some .frz, some .frz, some .frz, some .frz, some .frz, some .frz, none, none, none, none, none]) (ds_set (i := 6) (m := .frz) rfl sc__law_walk.nd rfl (.inl rfl) (de_tup (ms := [.frz, .frz, .frz, .frz, .frz, .frz, .frz, .frz]) allF (by decide +kernel) (da_cons (m := .frz) rfl (eV (m := .frz) 5 rfl rfl (.inl rfl) rfl rfl) (da_cons (m := .frz) rfl de_int (da_cons (m := .frz) rfl de_int (da_cons (m := .frz) rfl de_int (da_cons (m := .frz) rfl de_int (da_cons (m := .frz) rfl de_int (da_cons (m := .frz) rfl de_int (da_cons (m := .frz) rfl de_int da_nil rfl) rfl) rfl) rfl) rfl) rfl) rfl) rfl)) rfl (.inl rfl)) (dss_cons (M1 := [some .frz, some .frz, some .frz, some .frz, some .frz, some .frz, some .frz, some .frz, none, none, none, none]) (ds_if (M' := [some .frz, some .frz, some .frz, some .frz, some .frz, some .frz, some .frz, some .frz, none, none, none, none]) (dt_cmp (ma := .frz) rfl (o_eq hr.units) (eV (m := .frz) 4 rfl rfl (.inl rfl) rfl rfl) de_str (nomark _)) (dss_cons (M1 := [some .frz, some .frz, some .frz, some .frz, some .frz, some .frz, some .frz, some .frz, none, none, none, none]) (ds_set (i := 7) (m := .frz) rfl sc__law_walk.nd rfl (.inl rfl) (DE.frzOf (de_lst (ms := [.frz]) allF (by decide +kernel) (da_cons (m := .frz) rfl (de_c c__law_turned hr (by decide) (ms := [.frz, .frz]) rfl rfl (da_cons (m := .frz) rfl (eV (m := .frz) 6 rfl rfl (.inl rfl) rfl rfl) (da_cons (m := .frz) rfl (eV (m := .frz) 3 rfl rfl (.inl rfl) rfl rfl) da_nil rfl) rfl) rfl rfl rfl) da_nil rfl))) rfl (.inl rfl)) dss_nil) (dss_cons (M1 := [some .frz, some .frz, some .frz, some .frz, some .frz, some .frz, some .frz, none, some .frz, none, none, none]) (ds_set (i := 8) (m := .frz) rfl sc__law_walk.nd rfl (.inl rfl) (de_if (dt_cmp (ma := .frz) rfl o_gt (de_ix (hr9 hr) rfl (ma := .frz) rfl (eV (m := .frz) 1 rfl rfl (.inl rfl) rfl rfl) (eV (m := .frz) 4 rfl rfl (.inl rfl) rfl rfl) (fun _ _ => rfl)) de_int (nomark _)) de_int de_int) rfl (.inl rfl)) (dss_cons (M1 := [some .frz, some .frz, some .frz, some .frz, some .frz, some .frz, some .frz, some .frz, some .frz, none, none, none]) (ds_set (i := 7) (m := .frz) rfl sc__law_walk.nd rfl (.inl rfl) (DE.frzOf (de_lst (ms := [.frz, .frz]) allF (by decide +kernel) (da_cons (m := .frz) rfl (de_c c__law_turned hr (by decide) (ms := [.frz, .frz]) rfl rfl (da_cons (m := .frz) rfl (eV (m := .frz) 6 rfl rfl (.inl rfl) rfl rfl) (da_cons (m := .frz) rfl (DE.frzOf (de_op rfl o_add (eV (m := .frz) 3 rfl rfl (.inl rfl) rfl rfl) (eV (m := .frz) 8 rfl rfl (.inl rfl) rfl rfl))) da_nil rfl) rfl) rfl rfl rfl) (da_cons (m := .frz) rfl (de_c c__law_turned hr (by decide) (ms := [.frz, .frz]) rfl rfl (da_cons (m := .frz) rfl (eV (m := .frz) 6 rfl rfl (.inl rfl) rfl rfl) (da_cons (m := .frz) rfl (DE.frzOf (de_op rfl o_add (de_op rfl o_add (de_op rfl o_add (eV (m := .frz) 3 rfl rfl (.inl rfl) rfl rfl) (de_ix (hr9 hr) rfl (ma := .frz) rfl (eV (m := .frz) 1 rfl rfl (.inl rfl) rfl rfl) (eV (m := .frz) 4 rfl rfl (.inl rfl) rfl rfl) (fun _ _ => rfl))) (eV (m := .frz) 8 rfl rfl (.inl rfl) rfl rfl)) de_int)) da_nil rfl) rfl) rfl rfl rfl) da_nil rfl) rfl))) rfl (.inl rfl)) (DSs.fin (.cons (.same _) (.cons (.same _) (.cons (.same _) (.cons (.same _) (.cons (.same _) (.cons (.same _) (.cons (.same _) (.cons (.same _) (.cons (.dead _) (.cons (.same _) (.cons (.same _) (.cons (.same _) .nil)))))))))))) dss_nil)))) (dss_cons (M1 := [some .frz, some .frz, some .frz, some .frz, some .frz, some .frz, some .frz, some .frz, none, none, none, none]) (ds_for (M := [some .frz, some .frz, some .frz, some .frz, some .frz, some .frz, some .frz, some .frz, none, none, none, none]) (M1 := [some .frz, some .frz, some .frz, some .frz, some .frz, some .frz, some .frz, some .frz, none, some .frz, none, none]) (mi := .frz) PassesOwn.never rfl (di_seq (eV (m := .frz) 7 rfl rfl (.inl rfl) rfl rfl)) (gN (i := 9) (M := [some .frz, some .frz, some .frz, some .frz, some .frz, some .frz, some .frz, some .frz, none, none, none, none]) (mi := .frz) rfl sc__law_walk.nd rfl (.inl rfl) (.inl rfl)) (dss_cons (M1 := [some .frz, some .frz, some .own, some .frz, some .frz, some .frz, some .frz, some .frz, none, some .frz, none, none]) (ds_setLc (own := [("a", 10), ("b", 11)]) (M1 := [some .frz, some .frz, some .frz, some .frz, some .frz, some .frz, some .frz, some .frz, none, some .frz, some .frz, some .frz]) (mi := .frz) rfl (by decide) rfl rfl sc__law_walk.nd (i := 2) rfl rfl (sw_true rfl rfl rfl (by decide +kernel)) (di_zipM (m := .frz) rfl rfl T.z_zip (da_cons (m := .frz) rfl (eV (m := .frz) 2 rfl rfl (.inl rfl) rfl rfl) (da_cons (m := .frz) rfl (eV (m := .frz) 9 rfl rfl (.inl rfl) rfl rfl) da_nil rfl) rfl) rfl rfl) (blkOk_by (N := ["track", "turns", "spot", "heading", "kind", "n", "unit", "rows", "side", "row", "a", "b"]) (sc := defScope s__law_walk) (own := [("a", 10), ("b", 11)]) (by decide +kernel)) (fun _ _ _ _ _ => (dg_tup rfl (dgs_cons (gN (i := 10) (M := [some .frz, some .frz, some .frz, some .frz, some .frz, some .frz, some .frz, some .frz, none, some .frz, none, none]) (mi := .frz) rfl sc__law_walk.nd rfl (.inl rfl) (.inr rfl)) (dgs_cons (gN (i := 11) (M := [some .frz, some .frz, some .frz, some .frz, some .frz, some .frz, some .frz, some .frz, none, some .frz, some .frz, none]) (mi := .frz) rfl sc__law_walk.nd rfl (.inl rfl) (.inr rfl)) dgs_nil rfl) rfl) rfl rfl)) (fun _ _ _ _ _ => dts_nil) (fun _ _ _ _ _ => (DE.frzOf (de_op rfl o_add (eV (m := .frz) 10 rfl rfl (.inl rfl) rfl rfl) (eV (m := .frz) 11 rfl rfl (.inl rfl) rfl rfl)))) (fun _ => rfl)) (DSs.frzAt (i := 2) rfl (DSs.fin (.cons (.same _) (.cons (.same _) (.cons (.same _) (.cons (.same _) (.cons (.same _) (.cons (.same _) (.cons (.same _) (.cons (.same _) (.cons (.same _) (.cons (.dead _) (.cons (.same _) (.cons (.same _) .nil)))))))))))) dss_nil))) (fun _ => rfl)) (dss_cons (M1 := [some .frz, some .frz, some .frz, some .frz, some .frz, some .frz, some .frz, some .frz, none, none, none, none]) (ds_set (i := 3) (m := .frz) rfl sc__law_walk.nd rfl (.inl rfl) (DE.frzOf (de_op rfl o_add (eV (m := .frz) 3 rfl rfl (.inl rfl) rfl rfl) (de_ix (hr9 hr) rfl (ma := .frz) rfl (eV (m := .frz) 1 rfl rfl (.inl rfl) rfl rfl) (eV (m := .frz) 4 rfl rfl (.inl rfl) rfl rfl) (fun _ _ => rfl)))) rfl (.inl rfl)) (DSs.fin (.cons (.same _) (.cons (.same _) (.cons (.same _) (.cons (.same _) (.cons (.dead _) (.cons (.dead _) (.cons (.dead _) (.cons (.dead _) (.cons (.same _) (.cons (.same _) (.cons (.same _) (.cons (.same _) .nil)))))))))))) dss_nil))))) (fun _ => rfl)) (dss_cons (M1 := [some .frz, none, none, none, none, none, none, none, none, none, none, none]) (ds_ret (m := .frz) .nil rfl (de_tup (ms := [.frz, .frz]) allF (by decide +kernel) (da_cons (m := .frz) rfl (de_callTy b_tuple rfl T.z_tuple (by decide +kernel) (ms := [.frz]) (da_cons (m := .frz) rfl (eV (m := .frz) 2 rfl rfl (.inl rfl) rfl rfl) da_nil rfl) (by decide +kernel) (by decide +kernel) rfl rfl) (da_cons (m := .frz) rfl (de_op rfl o_sub (eV (m := .frz) 3 rfl rfl (.inl rfl) rfl rfl) (de_op rfl o_mul (de_op rfl o_fdiv (eV (m := .frz) 3 rfl rfl (.inl rfl) rfl rfl) de_int) de_int)) da_nil rfl) rfl))) dss_nil))))
def e1__law_track : CE := (tupV (aCons (c2 ixD (rd 2) (ioV 0 F__law_draw (aCons (cN lenD (aCons (rd 2) aNil)) aNil))) (aCons (c2 addD (cst (.int 1)) (ioV 0 F__law_draw (aCons (cst (.int 3)) aNil))) aNil)))
def den__law_track : CS := (seqS (rtS (cN tupleD (aCons (lcV (rgV rg1 (aCons (ioV 0 F__law_draw (aCons (c2 addD (rd 1) (cst (.int 1))) aNil)) aNil)) (stS 3) [3] yesT e1__law_track) aNil))) skip)
def F__law_track := fnI den__law_track 4 3
theorem sc__law_track : FnScope ["box", "most", "kinds", "k"] ["box", "most", "kinds"] (defScope s__law_track) := ⟨rfl, rfl, rfl, by decide +kernel, rfl, by decide +kernel, by decide +kernel⟩
theorem c__law_track (T : Tx K mg) : ClB P Wd.w K mg base 3 "_law_track" [.frz, .frz] .frz F__law_track := by
  have c__law_draw := c__law_draw (P := P) (base := base) T
  exact ClB.of T.d__law_track sc__law_track rfl rfl rfl (by decide) fun f a c cdv A outer s H E B hr => DSs.fin (M' := [some (.bio a c), some .frz, some .frz, none]) (.cons (.same _) .nil) (dss_cons (M1 := [some (.bio a c), some .frz, some .frz, none]) (ds_ret (m := .frz) (.cons (.same _) .nil) rfl (de_callTy b_tuple rfl T.z_tuple (by decide +kernel) (ms := [.own]) (da_cons (m := .own) rfl (de_lc (own := [("k", 3)]) (M1 := [some (.bio a c), some .frz, some .frz, some .frz]) (mi := .frz) rfl (by decide) rfl rfl sc__law_track.nd (di_range1 rfl T.z_range (ms := [.frz]) (da_cons (m := .frz) rfl (de_bi c__law_draw hr (by decide) rfl (m := (.bio a c)) (i := 0) rfl rfl rfl (.inr (.inl rfl)) rfl (da_cons (m := .frz) rfl (DE.frzOf (de_op rfl o_add (eV (m := .frz) 1 rfl rfl (.inl rfl) rfl rfl) de_int)) da_nil rfl) rfl rfl rfl rfl rfl) da_nil rfl) rfl) (blkOk_by (N := ["box", "most", "kinds", "k"]) (sc := defScope s__law_track) (own := [("k", 3)]) (by decide +kernel)) (fun _ _ _ _ _ => (gN (i := 3) (M := [some (.bio a c), some .frz, some .frz, none]) (mi := .frz) rfl sc__law_track.nd rfl (.inl rfl) (.inr rfl))) (fun _ _ _ _ _ => dts_nil) (fun _ _ _ _ _ => (de_tup (ms := [.frz, .frz]) allF (by decide +kernel) (da_cons (m := .frz) rfl (de_ix (hr9 hr) rfl (ma := .frz) rfl (eV (m := .frz) 2 rfl rfl (.inr (.inl rfl)) rfl rfl) (de_bi c__law_draw hr (by decide) rfl (m := (.bio a c)) (i := 0) rfl rfl rfl (.inr (.inl rfl)) rfl (da_cons (m := .frz) rfl (de_callB (b_len rfl) rfl T.z_len (by decide +kernel) (ms := [.frz]) (da_cons (m := .frz) rfl (eV (m := .frz) 2 rfl rfl (.inr (.inl rfl)) rfl rfl) da_nil rfl) (by decide +kernel) (by decide +kernel) rfl rfl) da_nil rfl) rfl rfl rfl rfl rfl) (fun _ _ => rfl)) (da_cons (m := .frz) rfl (DE.frzOf (de_op rfl o_add de_int (de_bi c__law_draw hr (by decide) rfl (m := (.bio a c)) (i := 0) rfl rfl rfl (.inr (.inl rfl)) rfl (da_cons (m := .frz) rfl de_int da_nil rfl) rfl rfl rfl rfl rfl))) da_nil rfl) rfl))) (fun _ => rfl)) da_nil rfl) (by decide +kernel) (by decide +kernel) rfl rfl)) dss_nil)
def den__law_is_piece : CS := (seqS (ifS (orT (notT (tst (isiW "tuple" (rd 0)))) (orT (tstB (c2 neD (cN lenD (aCons (rd 0) aNil)) (cst (.int 2)))) (orT (notT (tst (isiW "str" (c2 ixD (rd 0) (cst (.int 0)))))) (tstB (c2 notInD (c2 ixD (rd 0) (cst (.int 0))) (tupV (aCons (cst (.str "halfleft")) (aCons (cst (.str "halfright")) (aCons (cst (.str "left")) (aCons (cst (.str "right")) (aCons (cst (.str "straight")) aNil))))))))))) (seqS (rtS (cst (.bool false))) skip) skip) (seqS (rtS (andV (isiW "int" (c2 ixD (rd 0) (cst (.int 1)))) (andV (c1 notD (isiW "bool" (c2 ixD (rd 0) (cst (.int 1))))) (ch leD leD (cst (.int 1)) (c2 ixD (rd 0) (cst (.int 1))) (cst (.int 20)))))) skip))
def F__law_is_piece := fnF den__law_is_piece 1 1
theorem sc__law_is_piece : FnScope ["value"] ["value"] (defScope s__law_is_piece) := ⟨rfl, rfl, rfl, by decide +kernel, rfl, by decide +kernel, by decide +kernel⟩
theorem c__law_is_piece (T : Tx K mg) : Cl P Wd.w K mg base 1 "_law_is_piece" [.frz] .frz F__law_is_piece := by
  exact Cl.of (M' := [some .frz]) T.d__law_is_piece sc__law_is_piece rfl rfl rfl fun f cdv A outer s H E B hr => (dss_cons (M1 := [some .frz]) (ds_if (M' := [some .frz]) (dt_bool (dw_or (dt_not (dt_val (m := .frz) (de_isi (m := .frz) (T := "tuple") rfl rfl T.z_isinstance rfl T.z_tuple (by decide +kernel) (by decide +kernel) rfl (eV (m := .frz) 0 rfl rfl (.inl rfl) rfl rfl) rfl rfl rfl) (fun _ => rfl))) (dw_or (dt_cmp (ma := .frz) rfl (o_ne hr.units) (de_callB (b_len rfl) rfl T.z_len (by decide +kernel) (ms := [.frz]) (da_cons (m := .frz) rfl (eV (m := .frz) 0 rfl rfl (.inl rfl) rfl rfl) da_nil rfl) (by decide +kernel) (by decide +kernel) rfl rfl) de_int (nomark _)) (dw_or (dt_not (dt_val (m := .frz) (de_isi (m := .frz) (T := "str") rfl rfl T.z_isinstance rfl T.z_str (by decide +kernel) (by decide +kernel) rfl (de_ix (hr9 hr) rfl (ma := .frz) rfl (eV (m := .frz) 0 rfl rfl (.inl rfl) rfl rfl) de_int (fun _ _ => rfl)) rfl rfl rfl) (fun _ => rfl))) (dw_or1 (dt_cmp (ma := .frz) rfl (o_notIn (hr65 hr) rfl) (de_ix (hr9 hr) rfl (ma := .frz) rfl (eV (m := .frz) 0 rfl rfl (.inl rfl) rfl rfl) de_int (fun _ _ => rfl)) (de_tup (ms := [.frz, .frz, .frz, .frz, .frz]) allF (by decide +kernel) (da_cons (m := .frz) rfl de_str (da_cons (m := .frz) rfl de_str (da_cons (m := .frz) rfl de_str (da_cons (m := .frz) rfl de_str (da_cons (m := .frz) rfl de_str da_nil rfl) rfl) rfl) rfl) rfl)) (by with_unfolding_all rfl))))))) (dss_cons (M1 := [some .frz]) (ds_ret (m := .frz) .nil rfl de_bl) dss_nil) dss_nil) (dss_cons (M1 := [some .frz]) (ds_ret (m := .frz) .nil rfl (de_and (de_isi (m := .frz) (T := "int") rfl rfl T.z_isinstance rfl T.z_int (by decide +kernel) (by decide +kernel) rfl (de_ix (hr9 hr) rfl (ma := .frz) rfl (eV (m := .frz) 0 rfl rfl (.inl rfl) rfl rfl) de_int (fun _ _ => rfl)) rfl rfl rfl) (de_and (de_not (de_isi (m := .frz) (T := "bool") rfl rfl T.z_isinstance rfl T.z_bool (by decide +kernel) (by decide +kernel) rfl (de_ix (hr9 hr) rfl (ma := .frz) rfl (eV (m := .frz) 0 rfl rfl (.inl rfl) rfl rfl) de_int (fun _ _ => rfl)) rfl rfl rfl)) (de_one (de_chain (ma := .frz) (mb := .frz) rfl rfl o_le o_le de_int (de_ix (hr9 hr) rfl (ma := .frz) rfl (eV (m := .frz) 0 rfl rfl (.inl rfl) rfl rfl) de_int (fun _ _ => rfl)) de_int (by with_unfolding_all rfl)))))) dss_nil))
def e1_law : CE := (c2 ixD (cst k_FINE_TURNS) (rd 24))
def e2_law : CE := (c2 inD (rd 24) (tupV (aCons (cst (.str "left")) (aCons (cst (.str "right")) aNil))))
def e3_law : CE := (cN (F__law_same 8) (aCons (cN F_fine_turn (aCons (rd 9) aNil)) (aCons (c2 ixD (cst k_FINE_TURNS) (c2 ixD (rd 9) (cst (.int 0)))) aNil)))
def e4_law : CE := (c2 mulD (cst (.int 2)) (rd 26))
def b5_law : CS := (seqS (ifS (notT (tst (cN (F__law_same 8) (aCons (cN F_fine_step (aCons (rd 9) (aCons (rd 7) aNil))) (aCons (cN F__law_turned (aCons (c2 ixD (cN F__law_walk (aCons (tupV (aCons (rd 9) aNil)) aNil)) (cst (.int 0))) (aCons (rd 7) aNil))) aNil))))) (seqS (rtS (cst (.bool false))) skip) skip) skip)
def e6_law : CE := (tupV (aCons (c2 ixD (rd 10) (rd 24)) (aCons (rd 8) aNil)))
def e7_law : CE := (cN F_fine_other (aCons (rd 9) aNil))
def e8_law : CE := (c1 negD (rd 26))
def b9_law : CS := (seqS (ifS (andT (tstB (c2 gtD (rd 19) (cst (.int 1)))) (tstB (c2 eqD (ioV 1 F__law_draw (aCons (cst (.int 3)) aNil)) (cst (.int 0))))) (seqS (par2S 18 19 (c2 addD (rd 18) (lstV (aCons (tupV (aCons (rd 17) (aCons (rd 16) aNil))) aNil))) (c2 subD (rd 19) (cst (.int 2)))) skip) (seqS (ifS (tstB (c2 gtD (rd 19) (cst (.int 0)))) (seqS (par2S 18 19 (c2 addD (rd 18) (lstV (aCons (tupV (aCons (c2 addD (cst (.str "half")) (rd 17)) (aCons (rd 16) aNil))) aNil))) (c2 subD (rd 19) (cst (.int 1)))) skip) skip) skip)) skip)
def e10_law : CE := (ioV 1 (F__law_bent 8) (aCons (rd 4) aNil))
def e11_law : CE := (cN F__law_is_piece (aCons (rd 9) aNil))
def b12_law : CS := (seqS (asgS (stS 22) (ifV (andT (tst (isiW "tuple" (rd 21))) (tstB (c2 neD (rd 21) (tupV aNil)))) (c2 ixD (rd 21) (cst (.int 0))) (rd 21))) (seqS (asgS (stS 23) (tupV (aCons (andV (isiW "tuple" (rd 21)) (andV (c2 leD (cN lenD (aCons (rd 21) aNil)) (cst (.int 200))) (cN allD (aCons (lcV (seqI (rd 21)) (stS 9) [9] yesT e11_law) aNil)))) (aCons (cN F__law_is_piece (aCons (rd 22) aNil)) aNil)))) (seqS (ifS (notT (tst (cN (F__law_same 8) (aCons (tupV (aCons (cN F_is_fine_track (aCons (rd 21) aNil)) (aCons (cN F_is_fine_piece (aCons (rd 22) aNil)) aNil))) (aCons (rd 23) aNil))))) (seqS (rtS (cst (.bool false))) skip) skip) skip)))
def e13_law : CE := (ioV 1 (F__law_bent 8) (aCons (rd 5) aNil))
def e14_law : CE := (andV (isiW "int" (rd 26)) (c1 notD (isiW "bool" (rd 26))))
def b15_law : CS := (seqS (ifS (notT (tst (cN (F__law_same 8) (aCons (cN F_is_fine_spot (aCons (rd 21) aNil)) (aCons (andV (isiW "tuple" (rd 21)) (andV (c2 eqD (cN lenD (aCons (rd 21) aNil)) (cst (.int 8))) (cN allD (aCons (lcV (seqI (rd 21)) (stS 26) [26] yesT e14_law) aNil)))) aNil))))) (seqS (rtS (cst (.bool false))) skip) skip) skip)
def b16_law : CS := (seqS (asgS (stS 4) (ioV 1 F__law_track (aCons (cst (.int 10)) (aCons (rd 2) aNil)))) (seqS (asgS (tgT 2 (tCons' (stS 5) (tCons' (stS 6) tNil'))) (cN F__law_walk (aCons (rd 4) aNil))) (seqS (ifS (notT (tst (cN (F__law_same 8) (aCons (cN F_fine_pose_after (aCons (tupV (aCons (cst k_FINE_START) (aCons (cst (.int 0)) aNil))) (aCons (rd 4) aNil))) (aCons (tupV (aCons (rd 5) (aCons (rd 6) aNil))) aNil))))) (seqS (rtS (cst (.bool false))) skip) skip) (seqS (ifS (orT (notT (tst (cN (F__law_same 8) (aCons (cN F_does_fine_close (aCons (rd 4) aNil)) (aCons (andV (c2 neD (rd 4) (tupV aNil)) (c2 eqD (tupV (aCons (rd 5) (aCons (rd 6) aNil))) (tupV (aCons (c2 mulD (tupV (aCons (cst (.int 0)) aNil)) (cst (.int 8))) (aCons (cst (.int 0)) aNil))))) aNil))))) (notT (tst (cN (F__law_same 8) (aCons (cN F_fine_pose_after (aCons (tupV (aCons (cst k_FINE_START) (aCons (cst (.int 0)) aNil))) (aCons (cN F_halved (aCons (rd 4) aNil)) aNil))) (aCons (tupV (aCons (rd 5) (aCons (rd 6) aNil))) aNil)))))) (seqS (rtS (cst (.bool false))) skip) skip) (seqS (ifS (orT (tst (cN anD (aCons (lcV (seqI (cN F_halved (aCons (rd 4) aNil))) (tgT 2 (tCons' (stS 24) (tCons' (stS 8) tNil'))) [24, 8] yesT e2_law) aNil))) (notT (tst (cN allD (aCons (lcV (seqI (rd 4)) (stS 9) [9] yesT e3_law) aNil))))) (seqS (rtS (cst (.bool false))) skip) skip) (seqS (par2S 7 8 (c2 subD (ioV 1 F__law_draw (aCons (cst (.int 40)) aNil)) (cst (.int 20))) (c2 subD (ioV 1 F__law_draw (aCons (cst (.int 9)) aNil)) (cst (.int 4)))) (seqS (ifS (notT (tst (cN (F__law_same 8) (aCons (tupV (aCons (cN F_fine_turned (aCons (rd 5) (aCons (rd 7) aNil))) (aCons (cN F_fine_along (aCons (rd 7) (aCons (rd 8) aNil))) (aCons (cN F_fine_added (aCons (rd 5) (aCons (rd 5) aNil))) aNil)))) (aCons (tupV (aCons (cN F__law_turned (aCons (rd 5) (aCons (rd 7) aNil))) (aCons (cN F__law_turned (aCons (c2 addD (tupV (aCons (rd 8) aNil)) (c2 mulD (tupV (aCons (cst (.int 0)) aNil)) (cst (.int 7)))) (aCons (rd 7) aNil))) (aCons (cN tupleD (aCons (lcV (seqI (rd 5)) (stS 26) [26] yesT e4_law) aNil)) aNil)))) aNil))))) (seqS (rtS (cst (.bool false))) skip) skip) (seqS (forS (seqI (slV (rd 4) noPt (ptOf (cst (.int 2))))) (stS 9) b5_law) (seqS (asgS (stS 10) (dispV (pCons (cst (.str "halfleft")) (cst (.str "halfright")) (pCons (cst (.str "halfright")) (cst (.str "halfleft")) (pCons (cst (.str "left")) (cst (.str "right")) (pCons (cst (.str "right")) (cst (.str "left")) (pCons (cst (.str "straight")) (cst (.str "straight")) pNil))))))) (seqS (asgS (stS 11) (cN tupleD (aCons (lcV (seqI (rd 4)) (tgT 2 (tCons' (stS 24) (tCons' (stS 8) tNil'))) [24, 8] yesT e6_law) aNil))) (seqS (ifS (notT (tst (cN (F__law_same 8) (aCons (tupV (aCons (cN F_fine_mirrored (aCons (rd 4) aNil)) (aCons (cN F_fine_back (aCons (rd 4) aNil)) (aCons (cN tupleD (aCons (lcV (seqI (rd 4)) (stS 9) [9] yesT e7_law) aNil)) aNil)))) (aCons (tupV (aCons (rd 11) (aCons (rvV (rd 11)) (aCons (rd 11) aNil)))) aNil))))) (seqS (rtS (cst (.bool false))) skip) skip) (seqS (asgS (stS 12) (c2 addD (tupV (aCons (c2 ixD (rd 5) (cst (.int 0))) aNil)) (cN tupleD (aCons (lcV (seqI (c1 rv0D (rd 5))) (stS 26) [26] yesT e8_law) aNil)))) (seqS (ifS (notT (tst (cN (F__law_same 8) (aCons (cN F_fine_pose_after (aCons (tupV (aCons (cst k_FINE_START) (aCons (cst (.int 0)) aNil))) (aCons (rd 11) aNil))) (aCons (tupV (aCons (rd 12) (aCons (c2 subD (c1 negD (rd 6)) (c2 mulD (c2 fdivD (c1 negD (rd 6)) (cst (.int 16))) (cst (.int 16)))) aNil))) aNil))))) (seqS (rtS (cst (.bool false))) skip) skip) (seqS (asgS (stS 13) (cN F_fine_pose_after (aCons (tupV (aCons (rd 5) (aCons (c2 subD (c2 addD (rd 6) (cst (.int 8))) (c2 mulD (c2 fdivD (c2 addD (rd 6) (cst (.int 8))) (cst (.int 16))) (cst (.int 16)))) aNil))) (aCons (cN F_fine_back (aCons (rd 4) aNil)) aNil)))) (seqS (ifS (notT (tst (cN (F__law_same 8) (aCons (rd 13) (aCons (tupV (aCons (c2 mulD (tupV (aCons (cst (.int 0)) aNil)) (cst (.int 8))) (aCons (cst (.int 8)) aNil))) aNil))))) (seqS (rtS (cst (.bool false))) skip) skip) (seqS (asgS (stS 14) (ioV 1 F__law_track (aCons (cst (.int 8)) (aCons (lstV (aCons (cst (.str "left")) (aCons (cst (.str "right")) (aCons (cst (.str "straight")) aNil)))) aNil)))) (seqS (asgS (stS 15) (cN F_pose_after (aCons (tupV (aCons (tupV (aCons (cst (.int 0)) (aCons (cst (.int 0)) (aCons (cst (.int 0)) (aCons (cst (.int 0)) aNil))))) (aCons (cst (.int 0)) aNil))) (aCons (rd 14) aNil)))) (seqS (ifS (orT (notT (tst (cN (F__law_same 8) (aCons (cN F_fine_pose_after (aCons (tupV (aCons (cst k_FINE_START) (aCons (cst (.int 0)) aNil))) (aCons (rd 14) aNil))) (aCons (tupV (aCons (cN F_fine_spot_of (aCons (c2 ixD (rd 15) (cst (.int 0))) aNil)) (aCons (c2 mulD (cst (.int 2)) (c2 ixD (rd 15) (cst (.int 1)))) aNil))) aNil))))) (tstB (c2 neD (cN F_does_fine_close (aCons (rd 14) aNil)) (cN F_is_closed (aCons (rd 14) aNil))))) (seqS (rtS (cst (.bool false))) skip) skip) (seqS (par3S 16 17 18 (c2 addD (cst (.int 1)) (ioV 1 F__law_draw (aCons (cst (.int 4)) aNil))) (c2 ixD (lstV (aCons (cst (.str "left")) (aCons (cst (.str "right")) aNil))) (ioV 1 F__law_draw (aCons (cst (.int 2)) aNil))) (lstV aNil)) (seqS (asgS (stS 19) (cst (.int 16))) (seqS (forS (rgV rg1 (aCons (cst (.int 16)) aNil)) (stS 20) b9_law) (seqS (ifS (orT (tstB (c2 isNotD (cN F_does_fine_close (aCons (cN tupleD (aCons (rd 18) aNil)) aNil)) (cst (.bool true)))) (orT (tstB (c2 isNotD (cN F_does_fine_close (aCons (cN tupleD (aCons (slV (rd 18) (ptOf (cst (.int 1))) noPt) aNil)) aNil)) (cst (.bool false)))) (tstB (c2 isNotD (cN F_does_fine_close (aCons (c2 addD (cN tupleD (aCons (rd 18) aNil)) (tupV (aCons (tupV (aCons (cst (.str "straight")) (aCons (cst (.int 1)) aNil))) aNil))) aNil)) (cst (.bool false)))))) (seqS (rtS (cst (.bool false))) skip) skip) (seqS (forS (seqI (c2 catF (lstV (aCons (rd 4) (aCons (cN listD (aCons (rd 4) aNil)) (aCons (c2 mulD (rd 4) (cst (.int 30))) (aCons (tupV (aCons (tupV (aCons (cst (.str "left")) (aCons (cst (.int 0)) aNil))) aNil)) (aCons (tupV (aCons (tupV (aCons (cst (.str "left")) (aCons (cst (.int 21)) aNil))) aNil)) (aCons (tupV (aCons (tupV (aCons (cst (.str "right")) (aCons (cst (.bool true)) aNil))) aNil)) (aCons (tupV (aCons (tupV (aCons (cst (.str "halfback")) (aCons (cst (.int 1)) aNil))) aNil)) (aCons (cst .none) (aCons (tupV aNil) (aCons (cst (.int 0)) aNil))))))))))) (lcV (rgV rg1 (aCons (cst (.int 4)) aNil)) (stS 25) [25] yesT e10_law))) (stS 21) b12_law) (seqS (forS (seqI (c2 catF (lstV (aCons (rd 5) (aCons (slV (rd 5) (ptOf (cst (.int 1))) noPt) (aCons (c2 addD (rd 5) (tupV (aCons (cst (.int 0)) aNil))) (aCons (c2 addD (tupV (aCons (cst (.bool true)) aNil)) (slV (rd 5) (ptOf (cst (.int 1))) noPt)) (aCons (cst .none) (aCons (tupV aNil) (aCons (cst (.int 0)) aNil)))))))) (lcV (rgV rg1 (aCons (cst (.int 3)) aNil)) (stS 25) [25] yesT e13_law))) (stS 21) b15_law) skip))))))))))))))))))))))))
def den_law : CS := (seqS (asgS (stS 1) (cN F__law_box (aCons (rd 0) aNil))) (seqS (asgS (stS 2) (lstV (aCons (cst (.str "halfleft")) (aCons (cst (.str "halfright")) (aCons (cst (.str "left")) (aCons (cst (.str "right")) (aCons (cst (.str "straight")) aNil))))))) (seqS (ifS (orT (tstB (c2 neD (tupV (aCons (cst k_FINE_HEADINGS) (aCons (cst k_FINE_KINDS) (aCons (cst k_FINE_START) aNil)))) (tupV (aCons (cst (.int 16)) (aCons (cN tupleD (aCons (rd 2) aNil)) (aCons (c2 mulD (tupV (aCons (cst (.int 0)) aNil)) (cst (.int 8))) aNil)))))) (tstB (c2 neD (lcV (seqI (rd 2)) (stS 24) [24] yesT e1_law) (lstV (aCons (cst (.int 1)) (aCons (c1 negD (cst (.int 1))) (aCons (cst (.int 2)) (aCons (c1 negD (cst (.int 2))) (aCons (cst (.int 0)) aNil))))))))) (seqS (rtS (cst (.bool false))) skip) skip) (seqS (forS (rgV rg1 (aCons (cst (.int 6)) aNil)) (stS 3) b16_law) (seqS (rtS (cst (.bool true))) skip)))))
def F_law := fnF den_law 27 1
theorem sc_law : FnScope ["script", "box", "kinds", "turn", "track", "spot", "heading", "k", "n", "piece", "other", "mirror", "seen", "home", "eighths", "end", "radius", "side", "rows", "left", "step", "value", "one", "due", "kind", "j", "part"] ["script"] (defScope s_law) := ⟨rfl, rfl, rfl, by decide +kernel, rfl, by decide +kernel, by decide +kernel⟩
theorem ok_law (T : Tx K mg) {f : Addr} {fd : FuncData} (hf : Fun K "law" "law" s_law f fd) : FnD P Wd.w K mg base 11 f fd ["script"] [.frz] .frz F_law := by
  have c__law_bent := c__law_bent (P := P) (base := base) T
  have c__law_box := c__law_box (P := P) (base := base) T
  have c__law_draw := c__law_draw (P := P) (base := base) T
  have c__law_is_piece := c__law_is_piece (P := P) (base := base) T
  have c__law_same := c__law_same (P := P) (base := base) T
  have c__law_track := c__law_track (P := P) (base := base) T
  have c__law_turned := c__law_turned (P := P) (base := base) T
  have c__law_walk := c__law_walk (P := P) (base := base) T
  have c_does_fine_close := c_does_fine_close (P := P) (base := base) T
  have c_fine_added := c_fine_added (P := P) (base := base) T
  have c_fine_along := c_fine_along (P := P) (base := base) T
  have c_fine_back := c_fine_back (P := P) (base := base) T
  have c_fine_mirrored := c_fine_mirrored (P := P) (base := base) T
  have c_fine_other := c_fine_other (P := P) (base := base) T
  have c_fine_pose_after := c_fine_pose_after (P := P) (base := base) T
  have c_fine_spot_of := c_fine_spot_of (P := P) (base := base) T
  have c_fine_step := c_fine_step (P := P) (base := base) T
  have c_fine_turn := c_fine_turn (P := P) (base := base) T
  have c_fine_turned := c_fine_turned (P := P) (base := base) T
  have c_halved := c_halved (P := P) (base := base) T
  have c_is_closed := c_is_closed (P := P) (base := base) T
  have c_is_fine_piece := c_is_fine_piece (P := P) (base := base) T
  have c_is_fine_spot := c_is_fine_spot (P := P) (base := base) T
  have c_is_fine_track := c_is_fine_track (P := P) (base := base) T
  have c_pose_after := c_pose_after (P := P) (base := base) T
  exact fn_ok (M' := [some .frz, none, none, none, none, none, none, none, none, none, none, none, none, none, none, none, none, none, none, none, none, none, none, none, none, none, none]) hf sc_law rfl rfl rfl fun cdv A outer s H E B hr => (dss_cons (M1 := [some .frz, some .bx, none, none, none, none, none, none, none, none, none, none, none, none, none, none, none, none, none, none, none, none, none, none, none, none, none]) (ds_set (i := 1) (m := .bx) rfl sc_law.nd rfl (.inr rfl) (de_c c__law_box hr (by decide) (ms := [.frz]) rfl rfl (da_cons (m := .frz) rfl (eV (m := .frz) 0 rfl rfl (.inl rfl) rfl rfl) da_nil rfl) rfl rfl rfl) rfl (.inl rfl)) (dss_cons (M1 := [some .frz, some .bx, some .frz, none, none, none, none, none, none, none, none, none, none, none, none, none, none, none, none, none, none, none, none, none, none, none, none]) (ds_set (i := 2) (m := .frz) rfl sc_law.nd rfl (.inl rfl) (DE.frzOf (de_lst (ms := [.frz, .frz, .frz, .frz, .frz]) allF (by decide +kernel) (da_cons (m := .frz) rfl de_str (da_cons (m := .frz) rfl de_str (da_cons (m := .frz) rfl de_str (da_cons (m := .frz) rfl de_str (da_cons (m := .frz) rfl de_str da_nil rfl) rfl) rfl) rfl) rfl))) rfl (.inl rfl)) (dss_cons (M1 := [some .frz, some .bx, some .frz, none, none, none, none, none, none, none, none, none, none, none, none, none, none, none, none, none, none, none, none, none, none, none, none]) (ds_if (M' := [some .frz, some .bx, some .frz, none, none, none, none, none, none, none, none, none, none, none, none, none, none, none, none, none, none, none, none, none, none, none, none]) (dt_bool (dw_or (dt_cmp (ma := .frz) rfl (o_ne hr.units) (de_tup (ms := [.frz, .frz, .frz]) allF (by decide +kernel) (da_cons (m := .frz) rfl (de_glob T.k_FINE_HEADINGS rfl rfl) (da_cons (m := .frz) rfl (de_glob T.k_FINE_KINDS rfl rfl) (da_cons (m := .frz) rfl (de_glob T.k_FINE_START rfl rfl) da_nil rfl) rfl) rfl)) (de_tup (ms := [.frz, .frz, .frz]) allF (by decide +kernel) (da_cons (m := .frz) rfl de_int (da_cons (m := .frz) rfl (de_callTy b_tuple rfl T.z_tuple (by decide +kernel) (ms := [.frz]) (da_cons (m := .frz) rfl (eV (m := .frz) 2 rfl rfl (.inl rfl) rfl rfl) da_nil rfl) (by decide +kernel) (by decide +kernel) rfl rfl) (da_cons (m := .frz) rfl (DE.frzOf (de_op rfl o_mul (de_tup (ms := [.frz]) allF (by decide +kernel) (da_cons (m := .frz) rfl de_int da_nil rfl)) de_int)) da_nil rfl) rfl) rfl)) (nomark _)) (dw_or1 (dt_cmp (ma := .own) rfl (o_ne hr.units) (de_lc (own := [("kind", 24)]) (M1 := [some .frz, some .bx, some .frz, none, none, none, none, none, none, none, none, none, none, none, none, none, none, none, none, none, none, none, none, none, some .frz, none, none]) (mi := .frz) rfl (by decide) rfl rfl sc_law.nd (di_seq (eV (m := .frz) 2 rfl rfl (.inl rfl) rfl rfl)) (blkOk_by (N := ["script", "box", "kinds", "turn", "track", "spot", "heading", "k", "n", "piece", "other", "mirror", "seen", "home", "eighths", "end", "radius", "side", "rows", "left", "step", "value", "one", "due", "kind", "j", "part"]) (sc := defScope s_law) (own := [("kind", 24)]) (by decide +kernel)) (fun _ _ _ _ _ => (gN (i := 24) (M := [some .frz, some .bx, some .frz, none, none, none, none, none, none, none, none, none, none, none, none, none, none, none, none, none, none, none, none, none, none, none, none]) (mi := .frz) rfl sc_law.nd rfl (.inl rfl) (.inr rfl))) (fun _ _ _ _ _ => dts_nil) (fun _ _ _ _ _ => (de_ix (hr9 hr) rfl (ma := .frz) rfl (de_glob T.k_FINE_TURNS rfl rfl) (eV (m := .frz) 24 rfl rfl (.inl rfl) rfl rfl) (fun _ _ => rfl))) (fun _ => rfl)) (de_lst (ms := [.frz, .frz, .frz, .frz, .frz]) allF (by decide +kernel) (da_cons (m := .frz) rfl de_int (da_cons (m := .frz) rfl (de_un o_neg de_int) (da_cons (m := .frz) rfl de_int (da_cons (m := .frz) rfl (de_un o_neg de_int) (da_cons (m := .frz) rfl de_int da_nil rfl) rfl) rfl) rfl) rfl)) (nomark _))))) (dss_cons (M1 := [some .frz, some .bx, some .frz, none, none, none, none, none, none, none, none, none, none, none, none, none, none, none, none, none, none, none, none, none, none, none, none]) (ds_ret (m := .frz) .nil rfl de_bl) dss_nil) dss_nil) (dss_cons (M1 := [some .frz, some .bx, some .frz, none, none, none, none, none, none, none, none, none, none, none, none, none, none, none, none, none, none, none, none, none, none, none, none]) (ds_for (M := [some .frz, some .bx, some .frz, none, none, none, none, none, none, none, none, none, none, none, none, none, none, none, none, none, none, none, none, none, none, none, none]) (M1 := [some .frz, some .bx, some .frz, some .frz, none, none, none, none, none, none, none, none, none, none, none, none, none, none, none, none, none, none, none, none, none, none, none]) (mi := .frz) PassesOwn.never rfl (di_range1 rfl T.z_range (ms := [.frz]) (da_cons (m := .frz) rfl de_int da_nil rfl) rfl) (gN (i := 3) (M := [some .frz, some .bx, some .frz, none, none, none, none, none, none, none, none, none, none, none, none, none, none, none, none, none, none, none, none, none, none, none, none]) (mi := .frz) rfl sc_law.nd rfl (.inl rfl) (.inl rfl)) (dss_cons (M1 := [some .frz, some .bx, some .frz, some .frz, some .frz, none, none, none, none, none, none, none, none, none, none, none, none, none, none, none, none, none, none, none, none, none, none]) (ds_set (i := 4) (m := .frz) rfl sc_law.nd rfl (.inr rfl) (de_bi c__law_track hr (by decide) rfl (m := .bx) (i := 1) rfl rfl rfl (.inr (.inl rfl)) rfl (da_cons (m := .frz) rfl de_int (da_cons (m := .frz) rfl (eV (m := .frz) 2 rfl rfl (.inl rfl) rfl rfl) da_nil rfl) rfl) rfl rfl rfl rfl rfl) rfl (.inl rfl)) (dss_cons (M1 := [some .frz, some .bx, some .frz, some .frz, some .frz, some .frz, some .frz, none, none, none, none, none, none, none, none, none, none, none, none, none, none, none, none, none, none, none, none]) (ds_asg (m := .frz) (de_c c__law_walk hr (by decide) (ms := [.frz]) rfl rfl (da_cons (m := .frz) rfl (eV (m := .frz) 4 rfl rfl (.inr (.inl rfl)) rfl rfl) da_nil rfl) rfl rfl rfl) (dg_tup rfl (dgs_cons (gN (i := 5) (M := [some .frz, some .bx, some .frz, some .frz, some .frz, none, none, none, none, none, none, none, none, none, none, none, none, none, none, none, none, none, none, none, none, none, none]) (mi := .frz) rfl sc_law.nd rfl (.inr rfl) (.inl rfl)) (dgs_cons (gN (i := 6) (M := [some .frz, some .bx, some .frz, some .frz, some .frz, some .frz, none, none, none, none, none, none, none, none, none, none, none, none, none, none, none, none, none, none, none, none, none]) (mi := .frz) rfl sc_law.nd rfl (.inl rfl) (.inl rfl)) dgs_nil rfl) rfl) rfl rfl) rfl rfl rfl) (dss_cons (M1 := [some .frz, some .bx, some .frz, some .frz, some .frz, some .frz, some .frz, none, none, none, none, none, none, none, none, none, none, none, none, none, none, none, none, none, none, none, none]) (ds_if (M' := [some .frz, some .bx, some .frz, some .frz, some .frz, some .frz, some .frz, none, none, none, none, none, none, none, none, none, none, none, none, none, none, none, none, none, none, none, none]) (dt_not (dt_val (m := .frz) (de_c (c__law_same 8) hr (by decide) (ms := [.frz, .frz]) rfl rfl (da_cons (m := .frz) rfl (de_c c_fine_pose_after hr (by decide) (ms := [.frz, .frz]) rfl rfl (da_cons (m := .frz) rfl (de_tup (ms := [.frz, .frz]) allF (by decide +kernel) (da_cons (m := .frz) rfl (de_glob T.k_FINE_START rfl rfl) (da_cons (m := .frz) rfl de_int da_nil rfl) rfl)) (da_cons (m := .frz) rfl (eV (m := .frz) 4 rfl rfl (.inr (.inl rfl)) rfl rfl) da_nil rfl) rfl) rfl rfl rfl) (da_cons (m := .frz) rfl (de_tup (ms := [.frz, .frz]) allF (by decide +kernel) (da_cons (m := .frz) rfl (eV (m := .frz) 5 rfl rfl (.inr (.inl rfl)) rfl rfl) (da_cons (m := .frz) rfl (eV (m := .frz) 6 rfl rfl (.inl rfl) rfl rfl) da_nil rfl) rfl)) da_nil rfl) rfl) rfl rfl rfl) (fun _ => rfl))) (dss_cons (M1 := [some .frz, some .bx, some .frz, some .frz, some .frz, some .frz, some .frz, none, none, none, none, none, none, none, none, none, none, none, none, none, none, none, none, none, none, none, none]) (ds_ret (m := .frz) .nil rfl de_bl) dss_nil) dss_nil) (dss_cons (M1 := [some .frz, some .bx, some .frz, some .frz, some .frz, some .frz, some .frz, none, none, none, none, none, none, none, none, none, none, none, none, none, none, none, none, none, none, none, none]) (ds_if (M' := [some .frz, some .bx, some .frz, some .frz, some .frz, some .frz, some .frz, none, none, none, none, none, none, none, none, none, none, none, none, none, none, none, none, none, none, none, none]) (dt_bool (dw_or (dt_not (dt_val (m := .frz) (de_c (c__law_same 8) hr (by decide) (ms := [.frz, .frz]) rfl rfl (da_cons (m := .frz) rfl (de_c c_does_fine_close hr (by decide) (ms := [.frz]) rfl rfl (da_cons (m := .frz) rfl (eV (m := .frz) 4 rfl rfl (.inr (.inl rfl)) rfl rfl) da_nil rfl) rfl rfl rfl) (da_cons (m := .frz) rfl (de_and (de_cmp (ma := .frz) rfl (o_ne hr.units) (eV (m := .frz) 4 rfl rfl (.inr (.inl rfl)) rfl rfl) (de_tup (ms := []) (fun _ h => nomatch h) (by decide +kernel) da_nil) (nomark _)) (de_one (de_cmp (ma := .frz) rfl (o_eq hr.units) (de_tup (ms := [.frz, .frz]) allF (by decide +kernel) (da_cons (m := .frz) rfl (eV (m := .frz) 5 rfl rfl (.inr (.inl rfl)) rfl rfl) (da_cons (m := .frz) rfl (eV (m := .frz) 6 rfl rfl (.inl rfl) rfl rfl) da_nil rfl) rfl)) (de_tup (ms := [.frz, .frz]) allF (by decide +kernel) (da_cons (m := .frz) rfl (DE.frzOf (de_op rfl o_mul (de_tup (ms := [.frz]) allF (by decide +kernel) (da_cons (m := .frz) rfl de_int da_nil rfl)) de_int)) (da_cons (m := .frz) rfl de_int da_nil rfl) rfl)) (nomark _)))) da_nil rfl) rfl) rfl rfl rfl) (fun _ => rfl))) (dw_or1 (dt_not (dt_val (m := .frz) (de_c (c__law_same 8) hr (by decide) (ms := [.frz, .frz]) rfl rfl (da_cons (m := .frz) rfl (de_c c_fine_pose_after hr (by decide) (ms := [.frz, .frz]) rfl rfl (da_cons (m := .frz) rfl (de_tup (ms := [.frz, .frz]) allF (by decide +kernel) (da_cons (m := .frz) rfl (de_glob T.k_FINE_START rfl rfl) (da_cons (m := .frz) rfl de_int da_nil rfl) rfl)) (da_cons (m := .frz) rfl (de_c c_halved hr (by decide) (ms := [.frz]) rfl rfl (da_cons (m := .frz) rfl (eV (m := .frz) 4 rfl rfl (.inr (.inl rfl)) rfl rfl) da_nil rfl) rfl rfl rfl) da_nil rfl) rfl) rfl rfl rfl) (da_cons (m := .frz) rfl (de_tup (ms := [.frz, .frz]) allF (by decide +kernel) (da_cons (m := .frz) rfl (eV (m := .frz) 5 rfl rfl (.inr (.inl rfl)) rfl rfl) (da_cons (m := .frz) rfl (eV (m := .frz) 6 rfl rfl (.inl rfl) rfl rfl) da_nil rfl) rfl)) da_nil rfl) rfl) rfl rfl rfl) (fun _ => rfl)))))) (dss_cons (M1 := [some .frz, some .bx, some .frz, some .frz, some .frz, some .frz, some .frz, none, none, none, none, none, none, none, none, none, none, none, none, none, none, none, none, none, none, none, none]) (ds_ret (m := .frz) .nil rfl de_bl) dss_nil) dss_nil) (dss_cons (M1 := [some .frz, some .bx, some .frz, some .frz, some .frz, some .frz, some .frz, none, none, none, none, none, none, none, none, none, none, none, none, none, none, none, none, none, none, none, none]) (ds_if (M' := [some .frz, some .bx, some .frz, some .frz, some .frz, some .frz, some .frz, none, none, none, none, none, none, none, none, none, none, none, none, none, none, none, none, none, none, none, none]) (dt_bool (dw_or (dt_val (m := .frz) (de_callB (b_an rfl) rfl T.z_any (by decide +kernel) (ms := [.own]) (da_cons (m := .own) rfl (de_lc (own := [("kind", 24), ("n", 8)]) (M1 := [some .frz, some .bx, some .frz, some .frz, some .frz, some .frz, some .frz, none, some .frz, none, none, none, none, none, none, none, none, none, none, none, none, none, none, none, some .frz, none, none]) (mi := .frz) rfl (by decide) rfl rfl sc_law.nd (di_seq (de_c c_halved hr (by decide) (ms := [.frz]) rfl rfl (da_cons (m := .frz) rfl (eV (m := .frz) 4 rfl rfl (.inr (.inl rfl)) rfl rfl) da_nil rfl) rfl rfl rfl)) (blkOk_by (N := ["script", "box", "kinds", "turn", "track", "spot", "heading", "k", "n", "piece", "other", "mirror", "seen", "home", "eighths", "end", "radius", "side", "rows", "left", "step", "value", "one", "due", "kind", "j", "part"]) (sc := defScope s_law) (own := [("kind", 24), ("n", 8)]) (by decide +kernel)) (fun _ _ _ _ _ => (dg_tup rfl (dgs_cons (gN (i := 24) (M := [some .frz, some .bx, some .frz, some .frz, some .frz, some .frz, some .frz, none, none, none, none, none, none, none, none, none, none, none, none, none, none, none, none, none, none, none, none]) (mi := .frz) rfl sc_law.nd rfl (.inl rfl) (.inr rfl)) (dgs_cons (gN (i := 8) (M := [some .frz, some .bx, some .frz, some .frz, some .frz, some .frz, some .frz, none, none, none, none, none, none, none, none, none, none, none, none, none, none, none, none, none, some .frz, none, none]) (mi := .frz) rfl sc_law.nd rfl (.inl rfl) (.inr rfl)) dgs_nil rfl) rfl) rfl rfl)) (fun _ _ _ _ _ => dts_nil) (fun _ _ _ _ _ => (de_cmp (ma := .frz) rfl (o_in (hr65 hr) rfl) (eV (m := .frz) 24 rfl rfl (.inl rfl) rfl rfl) (de_tup (ms := [.frz, .frz]) allF (by decide +kernel) (da_cons (m := .frz) rfl de_str (da_cons (m := .frz) rfl de_str da_nil rfl) rfl)) (by with_unfolding_all rfl))) (fun _ => rfl)) da_nil rfl) (by decide +kernel) (by decide +kernel) rfl rfl) (fun _ => rfl)) (dw_or1 (dt_not (dt_val (m := .frz) (de_callB (b_all rfl) rfl T.z_all (by decide +kernel) (ms := [.own]) (da_cons (m := .own) rfl (de_lc (own := [("piece", 9)]) (M1 := [some .frz, some .bx, some .frz, some .frz, some .frz, some .frz, some .frz, none, none, some .frz, none, none, none, none, none, none, none, none, none, none, none, none, none, none, none, none, none]) (mi := .frz) rfl (by decide) rfl rfl sc_law.nd (di_seq (eV (m := .frz) 4 rfl rfl (.inr (.inl rfl)) rfl rfl)) (blkOk_by (N := ["script", "box", "kinds", "turn", "track", "spot", "heading", "k", "n", "piece", "other", "mirror", "seen", "home", "eighths", "end", "radius", "side", "rows", "left", "step", "value", "one", "due", "kind", "j", "part"]) (sc := defScope s_law) (own := [("piece", 9)]) (by decide +kernel)) (fun _ _ _ _ _ => (gN (i := 9) (M := [some .frz, some .bx, some .frz, some .frz, some .frz, some .frz, some .frz, none, none, none, none, none, none, none, none, none, none, none, none, none, none, none, none, none, none, none, none]) (mi := .frz) rfl sc_law.nd rfl (.inl rfl) (.inr rfl))) (fun _ _ _ _ _ => dts_nil) (fun _ _ _ _ _ => (de_c (c__law_same 8) hr (by decide) (ms := [.frz, .frz]) rfl rfl (da_cons (m := .frz) rfl (de_c c_fine_turn hr (by decide) (ms := [.frz]) rfl rfl (da_cons (m := .frz) rfl (eV (m := .frz) 9 rfl rfl (.inl rfl) rfl rfl) da_nil rfl) rfl rfl rfl) (da_cons (m := .frz) rfl (de_ix (hr9 hr) rfl (ma := .frz) rfl (de_glob T.k_FINE_TURNS rfl rfl) (de_ix (hr9 hr) rfl (ma := .frz) rfl (eV (m := .frz) 9 rfl rfl (.inl rfl) rfl rfl) de_int (fun _ _ => rfl)) (fun _ _ => rfl)) da_nil rfl) rfl) rfl rfl rfl)) (fun _ => rfl)) da_nil rfl) (by decide +kernel) (by decide +kernel) rfl rfl) (fun _ => rfl)))))) (dss_cons (M1 := [some .frz, some .bx, some .frz, some .frz, some .frz, some .frz, some .frz, none, none, none, none, none, none, none, none, none, none, none, none, none, none, none, none, none, none, none, none]) (ds_ret (m := .frz) .nil rfl de_bl) dss_nil) dss_nil) (dss_cons (M1 := [some .frz, some .bx, some .frz, some .frz, some .frz, some .frz, some .frz, some .frz, some .frz, none, none, none, none, none, none, none, none, none, none, none, none, none, none, none, none, none, none]) (ds_par2 (i := 7) (j := 8) (m1 := .frz) (m2 := .frz) rfl rfl rfl sc_law.nd rfl rfl (by decide) rfl rfl (de_op rfl o_sub (de_bi c__law_draw hr (by decide) rfl (m := .bx) (i := 1) rfl rfl rfl (.inr (.inl rfl)) rfl (da_cons (m := .frz) rfl de_int da_nil rfl) rfl rfl rfl rfl rfl) de_int) (de_op rfl o_sub (de_bi c__law_draw hr (by decide) rfl (m := .bx) (i := 1) rfl rfl rfl (.inr (.inl rfl)) rfl (da_cons (m := .frz) rfl de_int da_nil rfl) rfl rfl rfl rfl rfl) de_int) rfl rfl rfl rfl) (dss_cons (M1 := [some .frz, some .bx, some .frz, some .frz, some .frz, some .frz, some .frz, some .frz, some .frz, none, none, none, none, none, none, none, none, none, none, none, none, none, none, none, none, none, none]) (ds_if (M' := [some .frz, some .bx, some .frz, some .frz, some .frz, some .frz, some .frz, some .frz, some .frz, none, none, none, none, none, none, none, none, none, none, none, none, none, none, none, none, none, none]) (dt_not (dt_val (m := .frz) (de_c (c__law_same 8) hr (by decide) (ms := [.frz, .frz]) rfl rfl (da_cons (m := .frz) rfl (de_tup (ms := [.frz, .frz, .frz]) allF (by decide +kernel) (da_cons (m := .frz) rfl (de_c c_fine_turned hr (by decide) (ms := [.frz, .frz]) rfl rfl (da_cons (m := .frz) rfl (eV (m := .frz) 5 rfl rfl (.inr (.inl rfl)) rfl rfl) (da_cons (m := .frz) rfl (eV (m := .frz) 7 rfl rfl (.inl rfl) rfl rfl) da_nil rfl) rfl) rfl rfl rfl) (da_cons (m := .frz) rfl (de_c c_fine_along hr (by decide) (ms := [.frz, .frz]) rfl rfl (da_cons (m := .frz) rfl (eV (m := .frz) 7 rfl rfl (.inl rfl) rfl rfl) (da_cons (m := .frz) rfl (eV (m := .frz) 8 rfl rfl (.inl rfl) rfl rfl) da_nil rfl) rfl) rfl rfl rfl) (da_cons (m := .frz) rfl (de_c c_fine_added hr (by decide) (ms := [.frz, .frz]) rfl rfl (da_cons (m := .frz) rfl (eV (m := .frz) 5 rfl rfl (.inr (.inl rfl)) rfl rfl) (da_cons (m := .frz) rfl (eV (m := .frz) 5 rfl rfl (.inr (.inl rfl)) rfl rfl) da_nil rfl) rfl) rfl rfl rfl) da_nil rfl) rfl) rfl)) (da_cons (m := .frz) rfl (de_tup (ms := [.frz, .frz, .frz]) allF (by decide +kernel) (da_cons (m := .frz) rfl (de_c c__law_turned hr (by decide) (ms := [.frz, .frz]) rfl rfl (da_cons (m := .frz) rfl (eV (m := .frz) 5 rfl rfl (.inr (.inl rfl)) rfl rfl) (da_cons (m := .frz) rfl (eV (m := .frz) 7 rfl rfl (.inl rfl) rfl rfl) da_nil rfl) rfl) rfl rfl rfl) (da_cons (m := .frz) rfl (de_c c__law_turned hr (by decide) (ms := [.frz, .frz]) rfl rfl (da_cons (m := .frz) rfl (DE.frzOf (de_op rfl o_add (de_tup (ms := [.frz]) allF (by decide +kernel) (da_cons (m := .frz) rfl (eV (m := .frz) 8 rfl rfl (.inl rfl) rfl rfl) da_nil rfl)) (de_op rfl o_mul (de_tup (ms := [.frz]) allF (by decide +kernel) (da_cons (m := .frz) rfl de_int da_nil rfl)) de_int))) (da_cons (m := .frz) rfl (eV (m := .frz) 7 rfl rfl (.inl rfl) rfl rfl) da_nil rfl) rfl) rfl rfl rfl) (da_cons (m := .frz) rfl (de_callTy b_tuple rfl T.z_tuple (by decide +kernel) (ms := [.own]) (da_cons (m := .own) rfl (de_lc (own := [("part", 26)]) (M1 := [some .frz, some .bx, some .frz, some .frz, some .frz, some .frz, some .frz, some .frz, some .frz, none, none, none, none, none, none, none, none, none, none, none, none, none, none, none, none, none, some .frz]) (mi := .frz) rfl (by decide) rfl rfl sc_law.nd (di_seq (eV (m := .frz) 5 rfl rfl (.inr (.inl rfl)) rfl rfl)) (blkOk_by (N := ["script", "box", "kinds", "turn", "track", "spot", "heading", "k", "n", "piece", "other", "mirror", "seen", "home", "eighths", "end", "radius", "side", "rows", "left", "step", "value", "one", "due", "kind", "j", "part"]) (sc := defScope s_law) (own := [("part", 26)]) (by decide +kernel)) (fun _ _ _ _ _ => (gN (i := 26) (M := [some .frz, some .bx, some .frz, some .frz, some .frz, some .frz, some .frz, some .frz, some .frz, none, none, none, none, none, none, none, none, none, none, none, none, none, none, none, none, none, none]) (mi := .frz) rfl sc_law.nd rfl (.inl rfl) (.inr rfl))) (fun _ _ _ _ _ => dts_nil) (fun _ _ _ _ _ => (DE.frzOf (de_op rfl o_mul de_int (eV (m := .frz) 26 rfl rfl (.inl rfl) rfl rfl)))) (fun _ => rfl)) da_nil rfl) (by decide +kernel) (by decide +kernel) rfl rfl) da_nil rfl) rfl) rfl)) da_nil rfl) rfl) rfl rfl rfl) (fun _ => rfl))) (dss_cons (M1 := [some .frz, some .bx, some .frz, some .frz, some .frz, some .frz, some .frz, some .frz, some .frz, none, none, none, none, none, none, none, none, none, none, none, none, none, none, none, none, none, none]) (ds_ret (m := .frz) .nil rfl de_bl) dss_nil) dss_nil) (dss_cons (M1 := [some .frz, some .bx, some .frz, some .frz, some .frz, some .frz, some .frz, some .frz, some .frz, none, none, none, none, none, none, none, none, none, none, none, none, none, none, none, none, none, none]) (ds_for (M := [some .frz, some .bx, some .frz, some .frz, some .frz, some .frz, some .frz, some .frz, some .frz, none, none, none, none, none, none, none, none, none, none, none, none, none, none, none, none, none, none]) (M1 := [some .frz, some .bx, some .frz, some .frz, some .frz, some .frz, some .frz, some .frz, some .frz, some .frz, none, none, none, none, none, none, none, none, none, none, none, none, none, none, none, none, none]) (mi := .frz) PassesOwn.never rfl (di_seq (DE.frzOf (de_slice (ma := .frz) rfl rfl (eV (m := .frz) 4 rfl rfl (.inr (.inl rfl)) rfl rfl) dp_none (dp_some (m := .frz) de_int)))) (gN (i := 9) (M := [some .frz, some .bx, some .frz, some .frz, some .frz, some .frz, some .frz, some .frz, some .frz, none, none, none, none, none, none, none, none, none, none, none, none, none, none, none, none, none, none]) (mi := .frz) rfl sc_law.nd rfl (.inl rfl) (.inl rfl)) (dss_cons (M1 := [some .frz, some .bx, some .frz, some .frz, some .frz, some .frz, some .frz, some .frz, some .frz, some .frz, none, none, none, none, none, none, none, none, none, none, none, none, none, none, none, none, none]) (ds_if (M' := [some .frz, some .bx, some .frz, some .frz, some .frz, some .frz, some .frz, some .frz, some .frz, some .frz, none, none, none, none, none, none, none, none, none, none, none, none, none, none, none, none, none]) (dt_not (dt_val (m := .frz) (de_c (c__law_same 8) hr (by decide) (ms := [.frz, .frz]) rfl rfl (da_cons (m := .frz) rfl (de_c c_fine_step hr (by decide) (ms := [.frz, .frz]) rfl rfl (da_cons (m := .frz) rfl (eV (m := .frz) 9 rfl rfl (.inl rfl) rfl rfl) (da_cons (m := .frz) rfl (eV (m := .frz) 7 rfl rfl (.inl rfl) rfl rfl) da_nil rfl) rfl) rfl rfl rfl) (da_cons (m := .frz) rfl (de_c c__law_turned hr (by decide) (ms := [.frz, .frz]) rfl rfl (da_cons (m := .frz) rfl (de_ix (hr9 hr) rfl (ma := .frz) rfl (de_c c__law_walk hr (by decide) (ms := [.frz]) rfl rfl (da_cons (m := .frz) rfl (de_tup (ms := [.frz]) allF (by decide +kernel) (da_cons (m := .frz) rfl (eV (m := .frz) 9 rfl rfl (.inl rfl) rfl rfl) da_nil rfl)) da_nil rfl) rfl rfl rfl) de_int (fun _ _ => rfl)) (da_cons (m := .frz) rfl (eV (m := .frz) 7 rfl rfl (.inl rfl) rfl rfl) da_nil rfl) rfl) rfl rfl rfl) da_nil rfl) rfl) rfl rfl rfl) (fun _ => rfl))) (dss_cons (M1 := [some .frz, some .bx, some .frz, some .frz, some .frz, some .frz, some .frz, some .frz, some .frz, some .frz, none, none, none, none, none, none, none, none, none, none, none, none, none, none, none, none, none]) (ds_ret (m := .frz) .nil rfl de_bl) dss_nil) dss_nil) (DSs.fin (.cons (.same _) (.cons (.same _) (.cons (.same _) (.cons (.same _) (.cons (.same _) (.cons (.same _) (.cons (.same _) (.cons (.same _) (.cons (.same _) (.cons (.dead _) (.cons (.same _) (.cons (.same _) (.cons (.same _) (.cons (.same _) (.cons (.same _) (.cons (.same _) (.cons (.same _) (.cons (.same _) (.cons (.same _) (.cons (.same _) (.cons (.same _) (.cons (.same _) (.cons (.same _) (.cons (.same _) (.cons (.same _) (.cons (.same _) (.cons (.same _) .nil))))))))))))))))))))))))))) dss_nil)) (fun _ => rfl)) (dss_cons (M1 := [some .frz, some .bx, some .frz, some .frz, some .frz, some .frz, some .frz, some .frz, some .frz, none, some .frz, none, none, none, none, none, none, none, none, none, none, none, none, none, none, none, none]) (ds_set (i := 10) (m := .frz) rfl sc_law.nd rfl (.inr rfl) (DE.frzOf (de_disp (hr9 hr) rfl (dp_cons de_str de_str (dp_cons de_str de_str (dp_cons de_str de_str (dp_cons de_str de_str (dp_cons de_str de_str dp_nil))))) rfl rfl (by simp) (by decide))) rfl (.inl rfl)) (dss_cons (M1 := [some .frz, some .bx, some .frz, some .frz, some .frz, some .frz, some .frz, some .frz, some .frz, none, some .frz, some .frz, none, none, none, none, none, none, none, none, none, none, none, none, none, none, none]) (ds_set (i := 11) (m := .frz) rfl sc_law.nd rfl (.inl rfl) (de_callTy b_tuple rfl T.z_tuple (by decide +kernel) (ms := [.own]) (da_cons (m := .own) rfl (de_lc (own := [("kind", 24), ("n", 8)]) (M1 := [some .frz, some .bx, some .frz, some .frz, some .frz, some .frz, some .frz, some .frz, some .frz, none, some .frz, none, none, none, none, none, none, none, none, none, none, none, none, none, some .frz, none, none]) (mi := .frz) rfl (by decide) rfl rfl sc_law.nd (di_seq (eV (m := .frz) 4 rfl rfl (.inr (.inl rfl)) rfl rfl)) (blkOk_by (N := ["script", "box", "kinds", "turn", "track", "spot", "heading", "k", "n", "piece", "other", "mirror", "seen", "home", "eighths", "end", "radius", "side", "rows", "left", "step", "value", "one", "due", "kind", "j", "part"]) (sc := defScope s_law) (own := [("kind", 24), ("n", 8)]) (by decide +kernel)) (fun _ _ _ _ _ => (dg_tup rfl (dgs_cons (gN (i := 24) (M := [some .frz, some .bx, some .frz, some .frz, some .frz, some .frz, some .frz, some .frz, none, none, some .frz, none, none, none, none, none, none, none, none, none, none, none, none, none, none, none, none]) (mi := .frz) rfl sc_law.nd rfl (.inl rfl) (.inr rfl)) (dgs_cons (gN (i := 8) (M := [some .frz, some .bx, some .frz, some .frz, some .frz, some .frz, some .frz, some .frz, none, none, some .frz, none, none, none, none, none, none, none, none, none, none, none, none, none, some .frz, none, none]) (mi := .frz) rfl sc_law.nd rfl (.inl rfl) (.inr rfl)) dgs_nil rfl) rfl) rfl rfl)) (fun _ _ _ _ _ => dts_nil) (fun _ _ _ _ _ => (de_tup (ms := [.frz, .frz]) allF (by decide +kernel) (da_cons (m := .frz) rfl (de_ix (hr9 hr) rfl (ma := .frz) rfl (eV (m := .frz) 10 rfl rfl (.inr (.inl rfl)) rfl rfl) (eV (m := .frz) 24 rfl rfl (.inl rfl) rfl rfl) (fun _ _ => rfl)) (da_cons (m := .frz) rfl (eV (m := .frz) 8 rfl rfl (.inl rfl) rfl rfl) da_nil rfl) rfl))) (fun _ => rfl)) da_nil rfl) (by decide +kernel) (by decide +kernel) rfl rfl) rfl (.inl rfl)) (dss_cons (M1 := [some .frz, some .bx, some .frz, some .frz, some .frz, some .frz, some .frz, some .frz, some .frz, none, some .frz, some .frz, none, none, none, none, none, none, none, none, none, none, none, none, none, none, none]) (ds_if (M' := [some .frz, some .bx, some .frz, some .frz, some .frz, some .frz, some .frz, some .frz, some .frz, none, some .frz, some .frz, none, none, none, none, none, none, none, none, none, none, none, none, none, none, none]) (dt_not (dt_val (m := .frz) (de_c (c__law_same 8) hr (by decide) (ms := [.frz, .frz]) rfl rfl (da_cons (m := .frz) rfl (de_tup (ms := [.frz, .frz, .frz]) allF (by decide +kernel) (da_cons (m := .frz) rfl (de_c c_fine_mirrored hr (by decide) (ms := [.frz]) rfl rfl (da_cons (m := .frz) rfl (eV (m := .frz) 4 rfl rfl (.inr (.inl rfl)) rfl rfl) da_nil rfl) rfl rfl rfl) (da_cons (m := .frz) rfl (de_c c_fine_back hr (by decide) (ms := [.frz]) rfl rfl (da_cons (m := .frz) rfl (eV (m := .frz) 4 rfl rfl (.inr (.inl rfl)) rfl rfl) da_nil rfl) rfl rfl rfl) (da_cons (m := .frz) rfl (de_callTy b_tuple rfl T.z_tuple (by decide +kernel) (ms := [.own]) (da_cons (m := .own) rfl (de_lc (own := [("piece", 9)]) (M1 := [some .frz, some .bx, some .frz, some .frz, some .frz, some .frz, some .frz, some .frz, some .frz, some .frz, some .frz, some .frz, none, none, none, none, none, none, none, none, none, none, none, none, none, none, none]) (mi := .frz) rfl (by decide) rfl rfl sc_law.nd (di_seq (eV (m := .frz) 4 rfl rfl (.inr (.inl rfl)) rfl rfl)) (blkOk_by (N := ["script", "box", "kinds", "turn", "track", "spot", "heading", "k", "n", "piece", "other", "mirror", "seen", "home", "eighths", "end", "radius", "side", "rows", "left", "step", "value", "one", "due", "kind", "j", "part"]) (sc := defScope s_law) (own := [("piece", 9)]) (by decide +kernel)) (fun _ _ _ _ _ => (gN (i := 9) (M := [some .frz, some .bx, some .frz, some .frz, some .frz, some .frz, some .frz, some .frz, some .frz, none, some .frz, some .frz, none, none, none, none, none, none, none, none, none, none, none, none, none, none, none]) (mi := .frz) rfl sc_law.nd rfl (.inl rfl) (.inr rfl))) (fun _ _ _ _ _ => dts_nil) (fun _ _ _ _ _ => (de_c c_fine_other hr (by decide) (ms := [.frz]) rfl rfl (da_cons (m := .frz) rfl (eV (m := .frz) 9 rfl rfl (.inl rfl) rfl rfl) da_nil rfl) rfl rfl rfl)) (fun _ => rfl)) da_nil rfl) (by decide +kernel) (by decide +kernel) rfl rfl) da_nil rfl) rfl) rfl)) (da_cons (m := .frz) rfl (de_tup (ms := [.frz, .frz, .frz]) allF (by decide +kernel) (da_cons (m := .frz) rfl (eV (m := .frz) 11 rfl rfl (.inl rfl) rfl rfl) (da_cons (m := .frz) rfl (DE.frzOf (de_rev (m := .frz) (eV (m := .frz) 11 rfl rfl (.inl rfl) rfl rfl))) (da_cons (m := .frz) rfl (eV (m := .frz) 11 rfl rfl (.inl rfl) rfl rfl) da_nil rfl) rfl) rfl)) da_nil rfl) rfl) rfl rfl rfl) (fun _ => rfl))) (dss_cons (M1 := [some .frz, some .bx, some .frz, some .frz, some .frz, some .frz, some .frz, some .frz, some .frz, none, some .frz, some .frz, none, none, none, none, none, none, none, none, none, none, none, none, none, none, none]) (ds_ret (m := .frz) .nil rfl de_bl) dss_nil) dss_nil) (dss_cons (M1 := [some .frz, some .bx, some .frz, some .frz, some .frz, some .frz, some .frz, some .frz, some .frz, none, some .frz, some .frz, some .frz, none, none, none, none, none, none, none, none, none, none, none, none, none, none]) (ds_set (i := 12) (m := .frz) rfl sc_law.nd rfl (.inl rfl) (DE.frzOf (de_op rfl o_add (de_tup (ms := [.frz]) allF (by decide +kernel) (da_cons (m := .frz) rfl (de_ix (hr9 hr) rfl (ma := .frz) rfl (eV (m := .frz) 5 rfl rfl (.inr (.inl rfl)) rfl rfl) de_int (fun _ _ => rfl)) da_nil rfl)) (de_callTy b_tuple rfl T.z_tuple (by decide +kernel) (ms := [.own]) (da_cons (m := .own) rfl (de_lc (own := [("part", 26)]) (M1 := [some .frz, some .bx, some .frz, some .frz, some .frz, some .frz, some .frz, some .frz, some .frz, none, some .frz, some .frz, none, none, none, none, none, none, none, none, none, none, none, none, none, none, some .frz]) (mi := .frz) rfl (by decide) rfl rfl sc_law.nd (di_seq (DE.frzOf (de_rev0 (m := .frz) (eV (m := .frz) 5 rfl rfl (.inr (.inl rfl)) rfl rfl)))) (blkOk_by (N := ["script", "box", "kinds", "turn", "track", "spot", "heading", "k", "n", "piece", "other", "mirror", "seen", "home", "eighths", "end", "radius", "side", "rows", "left", "step", "value", "one", "due", "kind", "j", "part"]) (sc := defScope s_law) (own := [("part", 26)]) (by decide +kernel)) (fun _ _ _ _ _ => (gN (i := 26) (M := [some .frz, some .bx, some .frz, some .frz, some .frz, some .frz, some .frz, some .frz, some .frz, none, some .frz, some .frz, none, none, none, none, none, none, none, none, none, none, none, none, none, none, none]) (mi := .frz) rfl sc_law.nd rfl (.inl rfl) (.inr rfl))) (fun _ _ _ _ _ => dts_nil) (fun _ _ _ _ _ => (de_un o_neg (eV (m := .frz) 26 rfl rfl (.inl rfl) rfl rfl))) (fun _ => rfl)) da_nil rfl) (by decide +kernel) (by decide +kernel) rfl rfl))) rfl (.inl rfl)) (dss_cons (M1 := [some .frz, some .bx, some .frz, some .frz, some .frz, some .frz, some .frz, some .frz, some .frz, none, some .frz, some .frz, some .frz, none, none, none, none, none, none, none, none, none, none, none, none, none, none]) (ds_if (M' := [some .frz, some .bx, some .frz, some .frz, some .frz, some .frz, some .frz, some .frz, some .frz, none, some .frz, some .frz, some .frz, none, none, none, none, none, none, none, none, none, none, none, none, none, none]) (dt_not (dt_val (m := .frz) (de_c (c__law_same 8) hr (by decide) (ms := [.frz, .frz]) rfl rfl (da_cons (m := .frz) rfl (de_c c_fine_pose_after hr (by decide) (ms := [.frz, .frz]) rfl rfl (da_cons (m := .frz) rfl (de_tup (ms := [.frz, .frz]) allF (by decide +kernel) (da_cons (m := .frz) rfl (de_glob T.k_FINE_START rfl rfl) (da_cons (m := .frz) rfl de_int da_nil rfl) rfl)) (da_cons (m := .frz) rfl (eV (m := .frz) 11 rfl rfl (.inl rfl) rfl rfl) da_nil rfl) rfl) rfl rfl rfl) (da_cons (m := .frz) rfl (de_tup (ms := [.frz, .frz]) allF (by decide +kernel) (da_cons (m := .frz) rfl (eV (m := .frz) 12 rfl rfl (.inl rfl) rfl rfl) (da_cons (m := .frz) rfl (de_op rfl o_sub (de_un o_neg (eV (m := .frz) 6 rfl rfl (.inl rfl) rfl rfl)) (de_op rfl o_mul (de_op rfl o_fdiv (de_un o_neg (eV (m := .frz) 6 rfl rfl (.inl rfl) rfl rfl)) de_int) de_int)) da_nil rfl) rfl)) da_nil rfl) rfl) rfl rfl rfl) (fun _ => rfl))) (dss_cons (M1 := [some .frz, some .bx, some .frz, some .frz, some .frz, some .frz, some .frz, some .frz, some .frz, none, some .frz, some .frz, some .frz, none, none, none, none, none, none, none, none, none, none, none, none, none, none]) (ds_ret (m := .frz) .nil rfl de_bl) dss_nil) dss_nil) (dss_cons (M1 := [some .frz, some .bx, some .frz, some .frz, some .frz, some .frz, some .frz, some .frz, some .frz, none, some .frz, some .frz, some .frz, some .frz, none, none, none, none, none, none, none, none, none, none, none, none, none]) (ds_set (i := 13) (m := .frz) rfl sc_law.nd rfl (.inl rfl) (de_c c_fine_pose_after hr (by decide) (ms := [.frz, .frz]) rfl rfl (da_cons (m := .frz) rfl (de_tup (ms := [.frz, .frz]) allF (by decide +kernel) (da_cons (m := .frz) rfl (eV (m := .frz) 5 rfl rfl (.inr (.inl rfl)) rfl rfl) (da_cons (m := .frz) rfl (de_op rfl o_sub (de_op rfl o_add (eV (m := .frz) 6 rfl rfl (.inl rfl) rfl rfl) de_int) (de_op rfl o_mul (de_op rfl o_fdiv (de_op rfl o_add (eV (m := .frz) 6 rfl rfl (.inl rfl) rfl rfl) de_int) de_int) de_int)) da_nil rfl) rfl)) (da_cons (m := .frz) rfl (de_c c_fine_back hr (by decide) (ms := [.frz]) rfl rfl (da_cons (m := .frz) rfl (eV (m := .frz) 4 rfl rfl (.inr (.inl rfl)) rfl rfl) da_nil rfl) rfl rfl rfl) da_nil rfl) rfl) rfl rfl rfl) rfl (.inl rfl)) (dss_cons (M1 := [some .frz, some .bx, some .frz, some .frz, some .frz, some .frz, some .frz, some .frz, some .frz, none, some .frz, some .frz, some .frz, some .frz, none, none, none, none, none, none, none, none, none, none, none, none, none]) (ds_if (M' := [some .frz, some .bx, some .frz, some .frz, some .frz, some .frz, some .frz, some .frz, some .frz, none, some .frz, some .frz, some .frz, some .frz, none, none, none, none, none, none, none, none, none, none, none, none, none]) (dt_not (dt_val (m := .frz) (de_c (c__law_same 8) hr (by decide) (ms := [.frz, .frz]) rfl rfl (da_cons (m := .frz) rfl (eV (m := .frz) 13 rfl rfl (.inl rfl) rfl rfl) (da_cons (m := .frz) rfl (de_tup (ms := [.frz, .frz]) allF (by decide +kernel) (da_cons (m := .frz) rfl (DE.frzOf (de_op rfl o_mul (de_tup (ms := [.frz]) allF (by decide +kernel) (da_cons (m := .frz) rfl de_int da_nil rfl)) de_int)) (da_cons (m := .frz) rfl de_int da_nil rfl) rfl)) da_nil rfl) rfl) rfl rfl rfl) (fun _ => rfl))) (dss_cons (M1 := [some .frz, some .bx, some .frz, some .frz, some .frz, some .frz, some .frz, some .frz, some .frz, none, some .frz, some .frz, some .frz, some .frz, none, none, none, none, none, none, none, none, none, none, none, none, none]) (ds_ret (m := .frz) .nil rfl de_bl) dss_nil) dss_nil) (dss_cons (M1 := [some .frz, some .bx, some .frz, some .frz, some .frz, some .frz, some .frz, some .frz, some .frz, none, some .frz, some .frz, some .frz, some .frz, some .frz, none, none, none, none, none, none, none, none, none, none, none, none]) (ds_set (i := 14) (m := .frz) rfl sc_law.nd rfl (.inl rfl) (de_bi c__law_track hr (by decide) rfl (m := .bx) (i := 1) rfl rfl rfl (.inr (.inl rfl)) rfl (da_cons (m := .frz) rfl de_int (da_cons (m := .frz) rfl (DE.frzOf (de_lst (ms := [.frz, .frz, .frz]) allF (by decide +kernel) (da_cons (m := .frz) rfl de_str (da_cons (m := .frz) rfl de_str (da_cons (m := .frz) rfl de_str da_nil rfl) rfl) rfl))) da_nil rfl) rfl) rfl rfl rfl rfl rfl) rfl (.inl rfl)) (dss_cons (M1 := [some .frz, some .bx, some .frz, some .frz, some .frz, some .frz, some .frz, some .frz, some .frz, none, some .frz, some .frz, some .frz, some .frz, some .frz, some .frz, none, none, none, none, none, none, none, none, none, none, none]) (ds_set (i := 15) (m := .frz) rfl sc_law.nd rfl (.inl rfl) (de_c c_pose_after hr (by decide) (ms := [.frz, .frz]) rfl rfl (da_cons (m := .frz) rfl (de_tup (ms := [.frz, .frz]) allF (by decide +kernel) (da_cons (m := .frz) rfl (de_tup (ms := [.frz, .frz, .frz, .frz]) allF (by decide +kernel) (da_cons (m := .frz) rfl de_int (da_cons (m := .frz) rfl de_int (da_cons (m := .frz) rfl de_int (da_cons (m := .frz) rfl de_int da_nil rfl) rfl) rfl) rfl)) (da_cons (m := .frz) rfl de_int da_nil rfl) rfl)) (da_cons (m := .frz) rfl (eV (m := .frz) 14 rfl rfl (.inl rfl) rfl rfl) da_nil rfl) rfl) rfl rfl rfl) rfl (.inl rfl)) (dss_cons (M1 := [some .frz, some .bx, some .frz, some .frz, some .frz, some .frz, some .frz, some .frz, some .frz, none, some .frz, some .frz, some .frz, some .frz, some .frz, some .frz, none, none, none, none, none, none, none, none, none, none, none]) (ds_if (M' := [some .frz, some .bx, some .frz, some .frz, some .frz, some .frz, some .frz, some .frz, some .frz, none, some .frz, some .frz, some .frz, some .frz, some .frz, some .frz, none, none, none, none, none, none, none, none, none, none, none]) (dt_bool (dw_or (dt_not (dt_val (m := .frz) (de_c (c__law_same 8) hr (by decide) (ms := [.frz, .frz]) rfl rfl (da_cons (m := .frz) rfl (de_c c_fine_pose_after hr (by decide) (ms := [.frz, .frz]) rfl rfl (da_cons (m := .frz) rfl (de_tup (ms := [.frz, .frz]) allF (by decide +kernel) (da_cons (m := .frz) rfl (de_glob T.k_FINE_START rfl rfl) (da_cons (m := .frz) rfl de_int da_nil rfl) rfl)) (da_cons (m := .frz) rfl (eV (m := .frz) 14 rfl rfl (.inl rfl) rfl rfl) da_nil rfl) rfl) rfl rfl rfl) (da_cons (m := .frz) rfl (de_tup (ms := [.frz, .frz]) allF (by decide +kernel) (da_cons (m := .frz) rfl (de_c c_fine_spot_of hr (by decide) (ms := [.frz]) rfl rfl (da_cons (m := .frz) rfl (de_ix (hr9 hr) rfl (ma := .frz) rfl (eV (m := .frz) 15 rfl rfl (.inl rfl) rfl rfl) de_int (fun _ _ => rfl)) da_nil rfl) rfl rfl rfl) (da_cons (m := .frz) rfl (DE.frzOf (de_op rfl o_mul de_int (de_ix (hr9 hr) rfl (ma := .frz) rfl (eV (m := .frz) 15 rfl rfl (.inl rfl) rfl rfl) de_int (fun _ _ => rfl)))) da_nil rfl) rfl)) da_nil rfl) rfl) rfl rfl rfl) (fun _ => rfl))) (dw_or1 (dt_cmp (ma := .frz) rfl (o_ne hr.units) (de_c c_does_fine_close hr (by decide) (ms := [.frz]) rfl rfl (da_cons (m := .frz) rfl (eV (m := .frz) 14 rfl rfl (.inl rfl) rfl rfl) da_nil rfl) rfl rfl rfl) (de_c c_is_closed hr (by decide) (ms := [.frz]) rfl rfl (da_cons (m := .frz) rfl (eV (m := .frz) 14 rfl rfl (.inl rfl) rfl rfl) da_nil rfl) rfl rfl rfl) (nomark _))))) (dss_cons (M1 := [some .frz, some .bx, some .frz, some .frz, some .frz, some .frz, some .frz, some .frz, some .frz, none, some .frz, some .frz, some .frz, some .frz, some .frz, some .frz, none, none, none, none, none, none, none, none, none, none, none]) (ds_ret (m := .frz) .nil rfl de_bl) dss_nil) dss_nil) (dss_cons (M1 := [some .frz, some .bx, some .frz, some .frz, some .frz, some .frz, some .frz, some .frz, some .frz, none, some .frz, some .frz, some .frz, some .frz, some .frz, some .frz, some .frz, some .frz, some .frz, none, none, none, none, none, none, none, none]) (ds_par3 (i := 16) (j := 17) (l := 18) (m1 := .frz) (m2 := .frz) (m3 := .frz) rfl rfl rfl rfl sc_law.nd rfl rfl rfl (by decide) (by decide) (by decide) rfl rfl rfl (DE.frzOf (de_op rfl o_add de_int (de_bi c__law_draw hr (by decide) rfl (m := .bx) (i := 1) rfl rfl rfl (.inr (.inl rfl)) rfl (da_cons (m := .frz) rfl de_int da_nil rfl) rfl rfl rfl rfl rfl))) (de_ix (hr9 hr) rfl (ma := .own) rfl (de_lst (ms := [.frz, .frz]) allF (by decide +kernel) (da_cons (m := .frz) rfl de_str (da_cons (m := .frz) rfl de_str da_nil rfl) rfl)) (de_bi c__law_draw hr (by decide) rfl (m := .bx) (i := 1) rfl rfl rfl (.inr (.inl rfl)) rfl (da_cons (m := .frz) rfl de_int da_nil rfl) rfl rfl rfl rfl rfl) (fun _ _ => rfl)) (DE.frzOf (de_lst (ms := []) allF (by decide +kernel) da_nil)) rfl rfl rfl rfl rfl) (dss_cons (M1 := [some .frz, some .bx, some .frz, some .frz, some .frz, some .frz, some .frz, some .frz, some .frz, none, some .frz, some .frz, some .frz, some .frz, some .frz, some .frz, some .frz, some .frz, some .frz, some .frz, none, none, none, none, none, none, none]) (ds_set (i := 19) (m := .frz) rfl sc_law.nd rfl (.inl rfl) de_int rfl (.inl rfl)) (dss_cons (M1 := [some .frz, some .bx, some .frz, some .frz, some .frz, some .frz, some .frz, some .frz, some .frz, none, some .frz, some .frz, some .frz, some .frz, some .frz, some .frz, some .frz, some .frz, some .frz, some .frz, none, none, none, none, none, none, none]) (ds_for (M := [some .frz, some .bx, some .frz, some .frz, some .frz, some .frz, some .frz, some .frz, some .frz, none, some .frz, some .frz, some .frz, some .frz, some .frz, some .frz, some .frz, some .frz, some .frz, some .frz, none, none, none, none, none, none, none]) (M1 := [some .frz, some .bx, some .frz, some .frz, some .frz, some .frz, some .frz, some .frz, some .frz, none, some .frz, some .frz, some .frz, some .frz, some .frz, some .frz, some .frz, some .frz, some .frz, some .frz, some .frz, none, none, none, none, none, none]) (mi := .frz) PassesOwn.never rfl (di_range1 rfl T.z_range (ms := [.frz]) (da_cons (m := .frz) rfl de_int da_nil rfl) rfl) (gN (i := 20) (M := [some .frz, some .bx, some .frz, some .frz, some .frz, some .frz, some .frz, some .frz, some .frz, none, some .frz, some .frz, some .frz, some .frz, some .frz, some .frz, some .frz, some .frz, some .frz, some .frz, none, none, none, none, none, none, none]) (mi := .frz) rfl sc_law.nd rfl (.inl rfl) (.inl rfl)) (dss_cons (M1 := [some .frz, some .bx, some .frz, some .frz, some .frz, some .frz, some .frz, some .frz, some .frz, none, some .frz, some .frz, some .frz, some .frz, some .frz, some .frz, some .frz, some .frz, some .frz, some .frz, some .frz, none, none, none, none, none, none]) (ds_if (M' := [some .frz, some .bx, some .frz, some .frz, some .frz, some .frz, some .frz, some .frz, some .frz, none, some .frz, some .frz, some .frz, some .frz, some .frz, some .frz, some .frz, some .frz, some .frz, some .frz, some .frz, none, none, none, none, none, none]) (dt_bool (dw_and (dt_cmp (ma := .frz) rfl o_gt (eV (m := .frz) 19 rfl rfl (.inl rfl) rfl rfl) de_int (nomark _)) (dw_and1 (dt_cmp (ma := .frz) rfl (o_eq hr.units) (de_bi c__law_draw hr (by decide) rfl (m := .bx) (i := 1) rfl rfl rfl (.inr (.inl rfl)) rfl (da_cons (m := .frz) rfl de_int da_nil rfl) rfl rfl rfl rfl rfl) de_int (nomark _))))) (dss_cons (M1 := [some .frz, some .bx, some .frz, some .frz, some .frz, some .frz, some .frz, some .frz, some .frz, none, some .frz, some .frz, some .frz, some .frz, some .frz, some .frz, some .frz, some .frz, some .frz, some .frz, some .frz, none, none, none, none, none, none]) (ds_par2 (i := 18) (j := 19) (m1 := .frz) (m2 := .frz) rfl rfl rfl sc_law.nd rfl rfl (by decide) rfl rfl (DE.frzOf (de_op rfl o_add (eV (m := .frz) 18 rfl rfl (.inl rfl) rfl rfl) (de_lst (ms := [.frz]) allF (by decide +kernel) (da_cons (m := .frz) rfl (de_tup (ms := [.frz, .frz]) allF (by decide +kernel) (da_cons (m := .frz) rfl (eV (m := .frz) 17 rfl rfl (.inl rfl) rfl rfl) (da_cons (m := .frz) rfl (eV (m := .frz) 16 rfl rfl (.inl rfl) rfl rfl) da_nil rfl) rfl)) da_nil rfl)))) (de_op rfl o_sub (eV (m := .frz) 19 rfl rfl (.inl rfl) rfl rfl) de_int) rfl rfl rfl rfl) dss_nil) (dss_cons (M1 := [some .frz, some .bx, some .frz, some .frz, some .frz, some .frz, some .frz, some .frz, some .frz, none, some .frz, some .frz, some .frz, some .frz, some .frz, some .frz, some .frz, some .frz, some .frz, some .frz, some .frz, none, none, none, none, none, none]) (ds_if (M' := [some .frz, some .bx, some .frz, some .frz, some .frz, some .frz, some .frz, some .frz, some .frz, none, some .frz, some .frz, some .frz, some .frz, some .frz, some .frz, some .frz, some .frz, some .frz, some .frz, some .frz, none, none, none, none, none, none]) (dt_cmp (ma := .frz) rfl o_gt (eV (m := .frz) 19 rfl rfl (.inl rfl) rfl rfl) de_int (nomark _)) (dss_cons (M1 := [some .frz, some .bx, some .frz, some .frz, some .frz, some .frz, some .frz, some .frz, some .frz, none, some .frz, some .frz, some .frz, some .frz, some .frz, some .frz, some .frz, some .frz, some .frz, some .frz, some .frz, none, none, none, none, none, none]) (ds_par2 (i := 18) (j := 19) (m1 := .frz) (m2 := .frz) rfl rfl rfl sc_law.nd rfl rfl (by decide) rfl rfl (DE.frzOf (de_op rfl o_add (eV (m := .frz) 18 rfl rfl (.inl rfl) rfl rfl) (de_lst (ms := [.frz]) allF (by decide +kernel) (da_cons (m := .frz) rfl (de_tup (ms := [.frz, .frz]) allF (by decide +kernel) (da_cons (m := .frz) rfl (DE.frzOf (de_op rfl o_add de_str (eV (m := .frz) 17 rfl rfl (.inl rfl) rfl rfl))) (da_cons (m := .frz) rfl (eV (m := .frz) 16 rfl rfl (.inl rfl) rfl rfl) da_nil rfl) rfl)) da_nil rfl)))) (de_op rfl o_sub (eV (m := .frz) 19 rfl rfl (.inl rfl) rfl rfl) de_int) rfl rfl rfl rfl) dss_nil) dss_nil) dss_nil)) (DSs.fin (.cons (.same _) (.cons (.same _) (.cons (.same _) (.cons (.same _) (.cons (.same _) (.cons (.same _) (.cons (.same _) (.cons (.same _) (.cons (.same _) (.cons (.same _) (.cons (.same _) (.cons (.same _) (.cons (.same _) (.cons (.same _) (.cons (.same _) (.cons (.same _) (.cons (.same _) (.cons (.same _) (.cons (.same _) (.cons (.same _) (.cons (.dead _) (.cons (.same _) (.cons (.same _) (.cons (.same _) (.cons (.same _) (.cons (.same _) (.cons (.same _) .nil))))))))))))))))))))))))))) dss_nil)) (fun _ => rfl)) (dss_cons (M1 := [some .frz, some .bx, some .frz, some .frz, some .frz, some .frz, some .frz, some .frz, some .frz, none, some .frz, some .frz, some .frz, some .frz, some .frz, some .frz, some .frz, some .frz, some .frz, some .frz, none, none, none, none, none, none, none]) (ds_if (M' := [some .frz, some .bx, some .frz, some .frz, some .frz, some .frz, some .frz, some .frz, some .frz, none, some .frz, some .frz, some .frz, some .frz, some .frz, some .frz, some .frz, some .frz, some .frz, some .frz, none, none, none, none, none, none, none]) (dt_bool (dw_or (dt_cmp (ma := .frz) rfl o_isNot (de_c c_does_fine_close hr (by decide) (ms := [.frz]) rfl rfl (da_cons (m := .frz) rfl (de_callTy b_tuple rfl T.z_tuple (by decide +kernel) (ms := [.frz]) (da_cons (m := .frz) rfl (eV (m := .frz) 18 rfl rfl (.inl rfl) rfl rfl) da_nil rfl) (by decide +kernel) (by decide +kernel) rfl rfl) da_nil rfl) rfl rfl rfl) de_bl (nomark _)) (dw_or (dt_cmp (ma := .frz) rfl o_isNot (de_c c_does_fine_close hr (by decide) (ms := [.frz]) rfl rfl (da_cons (m := .frz) rfl (de_callTy b_tuple rfl T.z_tuple (by decide +kernel) (ms := [.own]) (da_cons (m := .own) rfl (de_slice (ma := .frz) rfl rfl (eV (m := .frz) 18 rfl rfl (.inl rfl) rfl rfl) (dp_some (m := .frz) de_int) dp_none) da_nil rfl) (by decide +kernel) (by decide +kernel) rfl rfl) da_nil rfl) rfl rfl rfl) de_bl (nomark _)) (dw_or1 (dt_cmp (ma := .frz) rfl o_isNot (de_c c_does_fine_close hr (by decide) (ms := [.frz]) rfl rfl (da_cons (m := .frz) rfl (DE.frzOf (de_op rfl o_add (de_callTy b_tuple rfl T.z_tuple (by decide +kernel) (ms := [.frz]) (da_cons (m := .frz) rfl (eV (m := .frz) 18 rfl rfl (.inl rfl) rfl rfl) da_nil rfl) (by decide +kernel) (by decide +kernel) rfl rfl) (de_tup (ms := [.frz]) allF (by decide +kernel) (da_cons (m := .frz) rfl (de_tup (ms := [.frz, .frz]) allF (by decide +kernel) (da_cons (m := .frz) rfl de_str (da_cons (m := .frz) rfl de_int da_nil rfl) rfl)) da_nil rfl)))) da_nil rfl) rfl rfl rfl) de_bl (nomark _)))))) (dss_cons (M1 := [some .frz, some .bx, some .frz, some .frz, some .frz, some .frz, some .frz, some .frz, some .frz, none, some .frz, some .frz, some .frz, some .frz, some .frz, some .frz, some .frz, some .frz, some .frz, some .frz, none, none, none, none, none, none, none]) (ds_ret (m := .frz) .nil rfl de_bl) dss_nil) dss_nil) (dss_cons (M1 := [some .frz, some .bx, some .frz, some .frz, some .frz, some .frz, some .frz, some .frz, some .frz, none, some .frz, some .frz, some .frz, some .frz, some .frz, some .frz, some .frz, some .frz, some .frz, some .frz, none, none, none, none, none, none, none]) (ds_for (M := [some .frz, some .bx, some .frz, some .frz, some .frz, some .frz, some .frz, some .frz, some .frz, none, some .frz, some .frz, some .frz, some .frz, some .frz, some .frz, some .frz, some .frz, some .frz, some .frz, none, none, none, none, none, none, none]) (M1 := [some .frz, some .bx, some .frz, some .frz, some .frz, some .frz, some .frz, some .frz, some .frz, none, some .frz, some .frz, some .frz, some .frz, some .frz, some .frz, some .frz, some .frz, some .frz, some .frz, none, some .frz, none, none, none, none, none]) (mi := .frz) PassesOwn.never rfl (di_seq (DE.frzOf (de_opF o_catF (DE.frzOf (de_lst (ms := [.frz, .frz, .frz, .frz, .frz, .frz, .frz, .frz, .frz, .frz]) allF (by decide +kernel) (da_cons (m := .frz) rfl (eV (m := .frz) 4 rfl rfl (.inr (.inl rfl)) rfl rfl) (da_cons (m := .frz) rfl (DE.frzOf (de_callTy b_list rfl T.z_list (by decide +kernel) (ms := [.frz]) (da_cons (m := .frz) rfl (eV (m := .frz) 4 rfl rfl (.inr (.inl rfl)) rfl rfl) da_nil rfl) (by decide +kernel) (by decide +kernel) rfl rfl)) (da_cons (m := .frz) rfl (DE.frzOf (de_op rfl o_mul (eV (m := .frz) 4 rfl rfl (.inr (.inl rfl)) rfl rfl) de_int)) (da_cons (m := .frz) rfl (de_tup (ms := [.frz]) allF (by decide +kernel) (da_cons (m := .frz) rfl (de_tup (ms := [.frz, .frz]) allF (by decide +kernel) (da_cons (m := .frz) rfl de_str (da_cons (m := .frz) rfl de_int da_nil rfl) rfl)) da_nil rfl)) (da_cons (m := .frz) rfl (de_tup (ms := [.frz]) allF (by decide +kernel) (da_cons (m := .frz) rfl (de_tup (ms := [.frz, .frz]) allF (by decide +kernel) (da_cons (m := .frz) rfl de_str (da_cons (m := .frz) rfl de_int da_nil rfl) rfl)) da_nil rfl)) (da_cons (m := .frz) rfl (de_tup (ms := [.frz]) allF (by decide +kernel) (da_cons (m := .frz) rfl (de_tup (ms := [.frz, .frz]) allF (by decide +kernel) (da_cons (m := .frz) rfl de_str (da_cons (m := .frz) rfl de_bl da_nil rfl) rfl)) da_nil rfl)) (da_cons (m := .frz) rfl (de_tup (ms := [.frz]) allF (by decide +kernel) (da_cons (m := .frz) rfl (de_tup (ms := [.frz, .frz]) allF (by decide +kernel) (da_cons (m := .frz) rfl de_str (da_cons (m := .frz) rfl de_int da_nil rfl) rfl)) da_nil rfl)) (da_cons (m := .frz) rfl de_non (da_cons (m := .frz) rfl (de_tup (ms := []) (fun _ h => nomatch h) (by decide +kernel) da_nil) (da_cons (m := .frz) rfl de_int da_nil rfl) rfl) rfl) rfl) rfl) rfl) rfl) rfl) rfl) rfl))) (DE.frzOf (de_lc (own := [("j", 25)]) (M1 := [some .frz, some .bx, some .frz, some .frz, some .frz, some .frz, some .frz, some .frz, some .frz, none, some .frz, some .frz, some .frz, some .frz, some .frz, some .frz, some .frz, some .frz, some .frz, some .frz, none, none, none, none, none, some .frz, none]) (mi := .frz) rfl (by decide) rfl rfl sc_law.nd (di_range1 rfl T.z_range (ms := [.frz]) (da_cons (m := .frz) rfl de_int da_nil rfl) rfl) (blkOk_by (N := ["script", "box", "kinds", "turn", "track", "spot", "heading", "k", "n", "piece", "other", "mirror", "seen", "home", "eighths", "end", "radius", "side", "rows", "left", "step", "value", "one", "due", "kind", "j", "part"]) (sc := defScope s_law) (own := [("j", 25)]) (by decide +kernel)) (fun _ _ _ _ _ => (gN (i := 25) (M := [some .frz, some .bx, some .frz, some .frz, some .frz, some .frz, some .frz, some .frz, some .frz, none, some .frz, some .frz, some .frz, some .frz, some .frz, some .frz, some .frz, some .frz, some .frz, some .frz, none, none, none, none, none, none, none]) (mi := .frz) rfl sc_law.nd rfl (.inl rfl) (.inr rfl))) (fun _ _ _ _ _ => dts_nil) (fun _ _ _ _ _ => (de_bi (c__law_bent 8) hr (by decide) rfl (m := .bx) (i := 1) rfl rfl rfl (.inr (.inl rfl)) rfl (da_cons (m := .frz) rfl (eV (m := .frz) 4 rfl rfl (.inr (.inl rfl)) rfl rfl) da_nil rfl) rfl rfl rfl rfl rfl)) (fun _ => rfl)))))) (gN (i := 21) (M := [some .frz, some .bx, some .frz, some .frz, some .frz, some .frz, some .frz, some .frz, some .frz, none, some .frz, some .frz, some .frz, some .frz, some .frz, some .frz, some .frz, some .frz, some .frz, some .frz, none, none, none, none, none, none, none]) (mi := .frz) rfl sc_law.nd rfl (.inl rfl) (.inl rfl)) (dss_cons (M1 := [some .frz, some .bx, some .frz, some .frz, some .frz, some .frz, some .frz, some .frz, some .frz, none, some .frz, some .frz, some .frz, some .frz, some .frz, some .frz, some .frz, some .frz, some .frz, some .frz, none, some .frz, some .frz, none, none, none, none]) (ds_set (i := 22) (m := .frz) rfl sc_law.nd rfl (.inl rfl) (de_if (dt_bool (dw_and (dt_val (m := .frz) (de_isi (m := .frz) (T := "tuple") rfl rfl T.z_isinstance rfl T.z_tuple (by decide +kernel) (by decide +kernel) rfl (eV (m := .frz) 21 rfl rfl (.inl rfl) rfl rfl) rfl rfl rfl) (fun _ => rfl)) (dw_and1 (dt_cmp (ma := .frz) rfl (o_ne hr.units) (eV (m := .frz) 21 rfl rfl (.inl rfl) rfl rfl) (de_tup (ms := []) (fun _ h => nomatch h) (by decide +kernel) da_nil) (nomark _))))) (de_ix (hr9 hr) rfl (ma := .frz) rfl (eV (m := .frz) 21 rfl rfl (.inl rfl) rfl rfl) de_int (fun _ _ => rfl)) (eV (m := .frz) 21 rfl rfl (.inl rfl) rfl rfl)) rfl (.inl rfl)) (dss_cons (M1 := [some .frz, some .bx, some .frz, some .frz, some .frz, some .frz, some .frz, some .frz, some .frz, none, some .frz, some .frz, some .frz, some .frz, some .frz, some .frz, some .frz, some .frz, some .frz, some .frz, none, some .frz, some .frz, some .frz, none, none, none]) (ds_set (i := 23) (m := .frz) rfl sc_law.nd rfl (.inl rfl) (de_tup (ms := [.frz, .frz]) allF (by decide +kernel) (da_cons (m := .frz) rfl (de_and (de_isi (m := .frz) (T := "tuple") rfl rfl T.z_isinstance rfl T.z_tuple (by decide +kernel) (by decide +kernel) rfl (eV (m := .frz) 21 rfl rfl (.inl rfl) rfl rfl) rfl rfl rfl) (de_and (de_cmp (ma := .frz) rfl o_le (de_callB (b_len rfl) rfl T.z_len (by decide +kernel) (ms := [.frz]) (da_cons (m := .frz) rfl (eV (m := .frz) 21 rfl rfl (.inl rfl) rfl rfl) da_nil rfl) (by decide +kernel) (by decide +kernel) rfl rfl) de_int (nomark _)) (de_one (de_callB (b_all rfl) rfl T.z_all (by decide +kernel) (ms := [.own]) (da_cons (m := .own) rfl (de_lc (own := [("piece", 9)]) (M1 := [some .frz, some .bx, some .frz, some .frz, some .frz, some .frz, some .frz, some .frz, some .frz, some .frz, some .frz, some .frz, some .frz, some .frz, some .frz, some .frz, some .frz, some .frz, some .frz, some .frz, none, some .frz, some .frz, none, none, none, none]) (mi := .frz) rfl (by decide) rfl rfl sc_law.nd (di_seq (eV (m := .frz) 21 rfl rfl (.inl rfl) rfl rfl)) (blkOk_by (N := ["script", "box", "kinds", "turn", "track", "spot", "heading", "k", "n", "piece", "other", "mirror", "seen", "home", "eighths", "end", "radius", "side", "rows", "left", "step", "value", "one", "due", "kind", "j", "part"]) (sc := defScope s_law) (own := [("piece", 9)]) (by decide +kernel)) (fun _ _ _ _ _ => (gN (i := 9) (M := [some .frz, some .bx, some .frz, some .frz, some .frz, some .frz, some .frz, some .frz, some .frz, none, some .frz, some .frz, some .frz, some .frz, some .frz, some .frz, some .frz, some .frz, some .frz, some .frz, none, some .frz, some .frz, none, none, none, none]) (mi := .frz) rfl sc_law.nd rfl (.inl rfl) (.inr rfl))) (fun _ _ _ _ _ => dts_nil) (fun _ _ _ _ _ => (de_c c__law_is_piece hr (by decide) (ms := [.frz]) rfl rfl (da_cons (m := .frz) rfl (eV (m := .frz) 9 rfl rfl (.inl rfl) rfl rfl) da_nil rfl) rfl rfl rfl)) (fun _ => rfl)) da_nil rfl) (by decide +kernel) (by decide +kernel) rfl rfl)))) (da_cons (m := .frz) rfl (de_c c__law_is_piece hr (by decide) (ms := [.frz]) rfl rfl (da_cons (m := .frz) rfl (eV (m := .frz) 22 rfl rfl (.inl rfl) rfl rfl) da_nil rfl) rfl rfl rfl) da_nil rfl) rfl)) rfl (.inl rfl)) (dss_cons (M1 := [some .frz, some .bx, some .frz, some .frz, some .frz, some .frz, some .frz, some .frz, some .frz, none, some .frz, some .frz, some .frz, some .frz, some .frz, some .frz, some .frz, some .frz, some .frz, some .frz, none, some .frz, some .frz, some .frz, none, none, none]) (ds_if (M' := [some .frz, some .bx, some .frz, some .frz, some .frz, some .frz, some .frz, some .frz, some .frz, none, some .frz, some .frz, some .frz, some .frz, some .frz, some .frz, some .frz, some .frz, some .frz, some .frz, none, some .frz, some .frz, some .frz, none, none, none]) (dt_not (dt_val (m := .frz) (de_c (c__law_same 8) hr (by decide) (ms := [.frz, .frz]) rfl rfl (da_cons (m := .frz) rfl (de_tup (ms := [.frz, .frz]) allF (by decide +kernel) (da_cons (m := .frz) rfl (de_c c_is_fine_track hr (by decide) (ms := [.frz]) rfl rfl (da_cons (m := .frz) rfl (eV (m := .frz) 21 rfl rfl (.inl rfl) rfl rfl) da_nil rfl) rfl rfl rfl) (da_cons (m := .frz) rfl (de_c c_is_fine_piece hr (by decide) (ms := [.frz]) rfl rfl (da_cons (m := .frz) rfl (eV (m := .frz) 22 rfl rfl (.inl rfl) rfl rfl) da_nil rfl) rfl rfl rfl) da_nil rfl) rfl)) (da_cons (m := .frz) rfl (eV (m := .frz) 23 rfl rfl (.inl rfl) rfl rfl) da_nil rfl) rfl) rfl rfl rfl) (fun _ => rfl))) (dss_cons (M1 := [some .frz, some .bx, some .frz, some .frz, some .frz, some .frz, some .frz, some .frz, some .frz, none, some .frz, some .frz, some .frz, some .frz, some .frz, some .frz, some .frz, some .frz, some .frz, some .frz, none, some .frz, some .frz, some .frz, none, none, none]) (ds_ret (m := .frz) .nil rfl de_bl) dss_nil) dss_nil) (DSs.fin (.cons (.same _) (.cons (.same _) (.cons (.same _) (.cons (.same _) (.cons (.same _) (.cons (.same _) (.cons (.same _) (.cons (.same _) (.cons (.same _) (.cons (.same _) (.cons (.same _) (.cons (.same _) (.cons (.same _) (.cons (.same _) (.cons (.same _) (.cons (.same _) (.cons (.same _) (.cons (.same _) (.cons (.same _) (.cons (.same _) (.cons (.same _) (.cons (.dead _) (.cons (.dead _) (.cons (.dead _) (.cons (.same _) (.cons (.same _) (.cons (.same _) .nil))))))))))))))))))))))))))) dss_nil)))) (fun _ => rfl)) (dss_cons (M1 := [some .frz, some .bx, some .frz, some .frz, some .frz, some .frz, some .frz, some .frz, some .frz, none, some .frz, some .frz, some .frz, some .frz, some .frz, some .frz, some .frz, some .frz, some .frz, some .frz, none, none, none, none, none, none, none]) (ds_for (M := [some .frz, some .bx, some .frz, some .frz, some .frz, some .frz, some .frz, some .frz, some .frz, none, some .frz, some .frz, some .frz, some .frz, some .frz, some .frz, some .frz, some .frz, some .frz, some .frz, none, none, none, none, none, none, none]) (M1 := [some .frz, some .bx, some .frz, some .frz, some .frz, some .frz, some .frz, some .frz, some .frz, none, some .frz, some .frz, some .frz, some .frz, some .frz, some .frz, some .frz, some .frz, some .frz, some .frz, none, some .frz, none, none, none, none, none]) (mi := .frz) PassesOwn.never rfl (di_seq (DE.frzOf (de_opF o_catF (DE.frzOf (de_lst (ms := [.frz, .frz, .frz, .frz, .frz, .frz, .frz]) allF (by decide +kernel) (da_cons (m := .frz) rfl (eV (m := .frz) 5 rfl rfl (.inr (.inl rfl)) rfl rfl) (da_cons (m := .frz) rfl (DE.frzOf (de_slice (ma := .frz) rfl rfl (eV (m := .frz) 5 rfl rfl (.inr (.inl rfl)) rfl rfl) (dp_some (m := .frz) de_int) dp_none)) (da_cons (m := .frz) rfl (DE.frzOf (de_op rfl o_add (eV (m := .frz) 5 rfl rfl (.inr (.inl rfl)) rfl rfl) (de_tup (ms := [.frz]) allF (by decide +kernel) (da_cons (m := .frz) rfl de_int da_nil rfl)))) (da_cons (m := .frz) rfl (DE.frzOf (de_op rfl o_add (de_tup (ms := [.frz]) allF (by decide +kernel) (da_cons (m := .frz) rfl de_bl da_nil rfl)) (de_slice (ma := .frz) rfl rfl (eV (m := .frz) 5 rfl rfl (.inr (.inl rfl)) rfl rfl) (dp_some (m := .frz) de_int) dp_none))) (da_cons (m := .frz) rfl de_non (da_cons (m := .frz) rfl (de_tup (ms := []) (fun _ h => nomatch h) (by decide +kernel) da_nil) (da_cons (m := .frz) rfl de_int da_nil rfl) rfl) rfl) rfl) rfl) rfl) rfl))) (DE.frzOf (de_lc (own := [("j", 25)]) (M1 := [some .frz, some .bx, some .frz, some .frz, some .frz, some .frz, some .frz, some .frz, some .frz, none, some .frz, some .frz, some .frz, some .frz, some .frz, some .frz, some .frz, some .frz, some .frz, some .frz, none, none, none, none, none, some .frz, none]) (mi := .frz) rfl (by decide) rfl rfl sc_law.nd (di_range1 rfl T.z_range (ms := [.frz]) (da_cons (m := .frz) rfl de_int da_nil rfl) rfl) (blkOk_by (N := ["script", "box", "kinds", "turn", "track", "spot", "heading", "k", "n", "piece", "other", "mirror", "seen", "home", "eighths", "end", "radius", "side", "rows", "left", "step", "value", "one", "due", "kind", "j", "part"]) (sc := defScope s_law) (own := [("j", 25)]) (by decide +kernel)) (fun _ _ _ _ _ => (gN (i := 25) (M := [some .frz, some .bx, some .frz, some .frz, some .frz, some .frz, some .frz, some .frz, some .frz, none, some .frz, some .frz, some .frz, some .frz, some .frz, some .frz, some .frz, some .frz, some .frz, some .frz, none, none, none, none, none, none, none]) (mi := .frz) rfl sc_law.nd rfl (.inl rfl) (.inr rfl))) (fun _ _ _ _ _ => dts_nil) (fun _ _ _ _ _ => (de_bi (c__law_bent 8) hr (by decide) rfl (m := .bx) (i := 1) rfl rfl rfl (.inr (.inl rfl)) rfl (da_cons (m := .frz) rfl (eV (m := .frz) 5 rfl rfl (.inr (.inl rfl)) rfl rfl) da_nil rfl) rfl rfl rfl rfl rfl)) (fun _ => rfl)))))) (gN (i := 21) (M := [some .frz, some .bx, some .frz, some .frz, some .frz, some .frz, some .frz, some .frz, some .frz, none, some .frz, some .frz, some .frz, some .frz, some .frz, some .frz, some .frz, some .frz, some .frz, some .frz, none, none, none, none, none, none, none]) (mi := .frz) rfl sc_law.nd rfl (.inl rfl) (.inl rfl)) (dss_cons (M1 := [some .frz, some .bx, some .frz, some .frz, some .frz, some .frz, some .frz, some .frz, some .frz, none, some .frz, some .frz, some .frz, some .frz, some .frz, some .frz, some .frz, some .frz, some .frz, some .frz, none, some .frz, none, none, none, none, none]) (ds_if (M' := [some .frz, some .bx, some .frz, some .frz, some .frz, some .frz, some .frz, some .frz, some .frz, none, some .frz, some .frz, some .frz, some .frz, some .frz, some .frz, some .frz, some .frz, some .frz, some .frz, none, some .frz, none, none, none, none, none]) (dt_not (dt_val (m := .frz) (de_c (c__law_same 8) hr (by decide) (ms := [.frz, .frz]) rfl rfl (da_cons (m := .frz) rfl (de_c c_is_fine_spot hr (by decide) (ms := [.frz]) rfl rfl (da_cons (m := .frz) rfl (eV (m := .frz) 21 rfl rfl (.inl rfl) rfl rfl) da_nil rfl) rfl rfl rfl) (da_cons (m := .frz) rfl (de_and (de_isi (m := .frz) (T := "tuple") rfl rfl T.z_isinstance rfl T.z_tuple (by decide +kernel) (by decide +kernel) rfl (eV (m := .frz) 21 rfl rfl (.inl rfl) rfl rfl) rfl rfl rfl) (de_and (de_cmp (ma := .frz) rfl (o_eq hr.units) (de_callB (b_len rfl) rfl T.z_len (by decide +kernel) (ms := [.frz]) (da_cons (m := .frz) rfl (eV (m := .frz) 21 rfl rfl (.inl rfl) rfl rfl) da_nil rfl) (by decide +kernel) (by decide +kernel) rfl rfl) de_int (nomark _)) (de_one (de_callB (b_all rfl) rfl T.z_all (by decide +kernel) (ms := [.own]) (da_cons (m := .own) rfl (de_lc (own := [("part", 26)]) (M1 := [some .frz, some .bx, some .frz, some .frz, some .frz, some .frz, some .frz, some .frz, some .frz, none, some .frz, some .frz, some .frz, some .frz, some .frz, some .frz, some .frz, some .frz, some .frz, some .frz, none, some .frz, none, none, none, none, some .frz]) (mi := .frz) rfl (by decide) rfl rfl sc_law.nd (di_seq (eV (m := .frz) 21 rfl rfl (.inl rfl) rfl rfl)) (blkOk_by (N := ["script", "box", "kinds", "turn", "track", "spot", "heading", "k", "n", "piece", "other", "mirror", "seen", "home", "eighths", "end", "radius", "side", "rows", "left", "step", "value", "one", "due", "kind", "j", "part"]) (sc := defScope s_law) (own := [("part", 26)]) (by decide +kernel)) (fun _ _ _ _ _ => (gN (i := 26) (M := [some .frz, some .bx, some .frz, some .frz, some .frz, some .frz, some .frz, some .frz, some .frz, none, some .frz, some .frz, some .frz, some .frz, some .frz, some .frz, some .frz, some .frz, some .frz, some .frz, none, some .frz, none, none, none, none, none]) (mi := .frz) rfl sc_law.nd rfl (.inl rfl) (.inr rfl))) (fun _ _ _ _ _ => dts_nil) (fun _ _ _ _ _ => (de_and (de_isi (m := .frz) (T := "int") rfl rfl T.z_isinstance rfl T.z_int (by decide +kernel) (by decide +kernel) rfl (eV (m := .frz) 26 rfl rfl (.inl rfl) rfl rfl) rfl rfl rfl) (de_one (de_not (de_isi (m := .frz) (T := "bool") rfl rfl T.z_isinstance rfl T.z_bool (by decide +kernel) (by decide +kernel) rfl (eV (m := .frz) 26 rfl rfl (.inl rfl) rfl rfl) rfl rfl rfl))))) (fun _ => rfl)) da_nil rfl) (by decide +kernel) (by decide +kernel) rfl rfl)))) da_nil rfl) rfl) rfl rfl rfl) (fun _ => rfl))) (dss_cons (M1 := [some .frz, some .bx, some .frz, some .frz, some .frz, some .frz, some .frz, some .frz, some .frz, none, some .frz, some .frz, some .frz, some .frz, some .frz, some .frz, some .frz, some .frz, some .frz, some .frz, none, some .frz, none, none, none, none, none]) (ds_ret (m := .frz) .nil rfl de_bl) dss_nil) dss_nil) (DSs.fin (.cons (.same _) (.cons (.same _) (.cons (.same _) (.cons (.same _) (.cons (.same _) (.cons (.same _) (.cons (.same _) (.cons (.same _) (.cons (.same _) (.cons (.same _) (.cons (.same _) (.cons (.same _) (.cons (.same _) (.cons (.same _) (.cons (.same _) (.cons (.same _) (.cons (.same _) (.cons (.same _) (.cons (.same _) (.cons (.same _) (.cons (.same _) (.cons (.dead _) (.cons (.same _) (.cons (.same _) (.cons (.same _) (.cons (.same _) (.cons (.same _) .nil))))))))))))))))))))))))))) dss_nil)) (fun _ => rfl)) (DSs.fin (.cons (.same _) (.cons (.same _) (.cons (.same _) (.cons (.dead _) (.cons (.dead _) (.cons (.dead _) (.cons (.dead _) (.cons (.dead _) (.cons (.dead _) (.cons (.same _) (.cons (.dead _) (.cons (.dead _) (.cons (.dead _) (.cons (.dead _) (.cons (.dead _) (.cons (.dead _) (.cons (.dead _) (.cons (.dead _) (.cons (.dead _) (.cons (.dead _) (.cons (.same _) (.cons (.same _) (.cons (.same _) (.cons (.same _) (.cons (.same _) (.cons (.same _) (.cons (.same _) .nil))))))))))))))))))))))))))) dss_nil))))))))))))))))))))))))) (fun _ => rfl)) (dss_cons (M1 := [some .frz, none, none, none, none, none, none, none, none, none, none, none, none, none, none, none, none, none, none, none, none, none, none, none, none, none, none]) (ds_ret (m := .frz) .nil rfl de_bl) dss_nil)))))
end
end
end Lw
namespace Lw
open PySem hiding Env Run
open Dn Lb
variable [Wd]

theorem ix7 (s : Sp8) : ixD (enc8 s) (.int 7) = some (.int s.h) := atI_nat (i := 7) rfl
theorem sl7 (s : Sp8) : slD (enc8 s) none (some 7) = some (.tuple [.int s.a, .int s.b, .int s.c, .int s.d, .int s.e, .int s.f, .int s.g]) := by
  unfold enc8
  rw [slD_tuple (by rfl)]
  exact congrArg (fun l => some (PyData.tuple l)) (cut_take (s.l.map .int) 7)
theorem ft_eq (s : Sp8) (k : Int) : F_fine_turned [enc8 s, .int k] = some (enc8 (turn8 k s)) := by
  have hk : 0 ≤ k % 16 ∧ k % 16 < 16 := ⟨Int.emod_nonneg _ (by decide), Int.emod_lt_of_pos _ (by decide)⟩
  refine fn_of (δ0 := [some (enc8 s), some (.int k), none]) rfl rfl ?_
  unfold den_fine_turned
  refine ws_forP (fun i : Nat => (.int i : D)) (List.range (k % 16).toNat) (fun pre δ => ∃ x, δ = [some (enc8 (Sp8.rotN pre.length s)), some (.int k), x]) ?_
  repeat (first | with_reducible refine ws_assoc ?_ | with_reducible refine ws_asg ?_ | with_reducible refine ws_rt ?_ | with_reducible refine ws_skip ?_ | refine wg_set rfl ?_ | refine wg_tup rfl ?_ | with_reducible refine wgs_cons ?_ | with_reducible refine wgs_nil ?_ | with_reducible refine ws_par2 ?_ | with_reducible refine ws_par3 ?_ | refine ws_aug rfl ?_ | refine we_rd rfl ?_ | with_reducible refine we_cst ?_ | with_reducible refine we_c2 ?_ | with_reducible refine we_c1 ?_ | with_reducible refine we_c3 ?_ | with_reducible refine we_call ?_ | with_reducible refine wa_nil ?_ | with_reducible refine wa_cons ?_ | with_reducible refine we_tup ?_ | with_reducible refine we_lst ?_ | with_reducible refine we_ifV ?_ | with_reducible refine we_sl ?_ | with_reducible refine wp_no ?_ | with_reducible refine wt_b ?_ | with_reducible refine wt_v ?_ | with_reducible refine wt_not ?_ | with_reducible refine wt_and ?_ | with_reducible refine wt_or ?_ | with_reducible refine wt_yes ?_ | with_reducible refine wb_t ?_ | with_reducible refine wb_f ?_ | with_reducible refine wb_nt ?_ | with_reducible refine wb_nf ?_ | with_reducible refine we_rv ?_ | with_reducible refine we_ch ?_ | with_reducible refine wa_seq ?_ | with_reducible refine wa_it ?_ | with_reducible refine wa_rg ?_ | with_reducible refine wp_of ?_ | with_reducible refine we_and ?_ | with_reducible refine we_or ?_ | with_reducible refine wo_r (addD_int _ _) ?_ | with_reducible refine wo_r (subD_int _ _) ?_ | with_reducible refine wo_r (negD_int _) ?_ | with_reducible refine wo_r (iaddD_int _ _) ?_ | with_reducible refine wo_r (ixL0 _ _ ) ?_ | with_reducible refine wo_r (ixL1 _ _ _ ) ?_ | with_reducible refine wo_r (ixL2 _ _ _ _ ) ?_ | with_reducible refine wo_r (ixL3 _ _ _ _ _ ) ?_ | with_reducible refine wo_r (ixT0 _ _ ) ?_ | with_reducible refine wo_r (ixT1 _ _ _ ) ?_ | with_reducible refine wo_r (ixT2 _ _ _ _ ) ?_ | with_reducible refine wo_r (ixT3 _ _ _ _ _ ) ?_ | refine Exists.intro _ (And.intro rfl ?_) | exact Exists.intro _ rfl | dsimp only [List.set_cons_succ, List.set_cons_zero])
  refine wo_r (modD_pos (i := k) (j := 16) (by decide)) ?_
  obtain ⟨n, hn⟩ : ∃ n : Nat, k % 16 = n := ⟨(k % 16).toNat, by omega⟩
  rw [hn, Int.toNat_natCast]
  refine wa_nil (wl_r (rg1_nat (by omega)) ⟨rfl, ⟨none, rfl⟩, ?_, ?_⟩)
  · rintro pre i post _ hpre ⟨x, rfl⟩
    refine wg_set rfl ?_
    unfold b1_fine_turned
    rw [List.length_append, List.length_singleton, Nat.add_comm, Sp8.rotN_add]
    have e1 : ∀ u : Sp8, addD (.tuple [.int (-u.h)]) (.tuple [.int u.a, .int u.b, .int u.c, .int u.d, .int u.e, .int u.f, .int u.g]) = some (enc8 (Sp8.rotN 1 u)) := fun u => rfl
    generalize Sp8.rotN pre.length s = u
    repeat (first | with_reducible refine ws_assoc ?_ | with_reducible refine ws_asg ?_ | with_reducible refine ws_rt ?_ | with_reducible refine ws_skip ?_ | refine wg_set rfl ?_ | refine wg_tup rfl ?_ | with_reducible refine wgs_cons ?_ | with_reducible refine wgs_nil ?_ | with_reducible refine ws_par2 ?_ | with_reducible refine ws_par3 ?_ | refine ws_aug rfl ?_ | refine we_rd rfl ?_ | with_reducible refine we_cst ?_ | with_reducible refine we_c2 ?_ | with_reducible refine we_c1 ?_ | with_reducible refine we_c3 ?_ | with_reducible refine we_call ?_ | with_reducible refine wa_nil ?_ | with_reducible refine wa_cons ?_ | with_reducible refine we_tup ?_ | with_reducible refine we_lst ?_ | with_reducible refine we_ifV ?_ | with_reducible refine we_sl ?_ | with_reducible refine wp_no ?_ | with_reducible refine wt_b ?_ | with_reducible refine wt_v ?_ | with_reducible refine wt_not ?_ | with_reducible refine wt_and ?_ | with_reducible refine wt_or ?_ | with_reducible refine wt_yes ?_ | with_reducible refine wb_t ?_ | with_reducible refine wb_f ?_ | with_reducible refine wb_nt ?_ | with_reducible refine wb_nf ?_ | with_reducible refine we_rv ?_ | with_reducible refine we_ch ?_ | with_reducible refine wa_seq ?_ | with_reducible refine wa_it ?_ | with_reducible refine wa_rg ?_ | with_reducible refine wp_of ?_ | with_reducible refine we_and ?_ | with_reducible refine we_or ?_ | with_reducible refine wo_r (addD_int _ _) ?_ | with_reducible refine wo_r (subD_int _ _) ?_ | with_reducible refine wo_r (negD_int _) ?_ | with_reducible refine wo_r (iaddD_int _ _) ?_ | with_reducible refine wo_r (ixL0 _ _ ) ?_ | with_reducible refine wo_r (ixL1 _ _ _ ) ?_ | with_reducible refine wo_r (ixL2 _ _ _ _ ) ?_ | with_reducible refine wo_r (ixL3 _ _ _ _ _ ) ?_ | with_reducible refine wo_r (ixT0 _ _ ) ?_ | with_reducible refine wo_r (ixT1 _ _ _ ) ?_ | with_reducible refine wo_r (ixT2 _ _ _ _ ) ?_ | with_reducible refine wo_r (ixT3 _ _ _ _ _ ) ?_ | with_reducible refine wo_r (ix7 u) ?_ | with_reducible refine wo_r (sl7 u) ?_ | with_reducible refine wo_r (e1 u) ?_ | refine Exists.intro _ (And.intro rfl ?_) | exact Exists.intro _ rfl | dsimp only [List.set_cons_succ, List.set_cons_zero])
    exact ws_end ⟨_, rfl⟩
  · rintro _ ⟨x, rfl⟩
    rw [List.length_range]
    unfold turn8
    rw [hn, Int.toNat_natCast]
    exact ws_rt (we_rd rfl ⟨_, rfl⟩)
theorem fa_eq (h n : Int) : F_fine_along [.int h, .int n] = some (enc8 (turn8 h (Sp8.unit n))) := by
  refine fn_of (δ0 := [some (.int h), some (.int n)]) rfl rfl ?_
  unfold den_fine_along
  refine ws_rt (we_call ?_)
  repeat (first | with_reducible refine ws_assoc ?_ | with_reducible refine ws_asg ?_ | with_reducible refine ws_rt ?_ | with_reducible refine ws_skip ?_ | refine wg_set rfl ?_ | refine wg_tup rfl ?_ | with_reducible refine wgs_cons ?_ | with_reducible refine wgs_nil ?_ | with_reducible refine ws_par2 ?_ | with_reducible refine ws_par3 ?_ | refine ws_aug rfl ?_ | refine we_rd rfl ?_ | with_reducible refine we_cst ?_ | with_reducible refine we_c2 ?_ | with_reducible refine we_c1 ?_ | with_reducible refine we_c3 ?_ | with_reducible refine we_call ?_ | with_reducible refine wa_nil ?_ | with_reducible refine wa_cons ?_ | with_reducible refine we_tup ?_ | with_reducible refine we_lst ?_ | with_reducible refine we_ifV ?_ | with_reducible refine we_sl ?_ | with_reducible refine wp_no ?_ | with_reducible refine wt_b ?_ | with_reducible refine wt_v ?_ | with_reducible refine wt_not ?_ | with_reducible refine wt_and ?_ | with_reducible refine wt_or ?_ | with_reducible refine wt_yes ?_ | with_reducible refine wb_t ?_ | with_reducible refine wb_f ?_ | with_reducible refine wb_nt ?_ | with_reducible refine wb_nf ?_ | with_reducible refine we_rv ?_ | with_reducible refine we_ch ?_ | with_reducible refine wa_seq ?_ | with_reducible refine wa_it ?_ | with_reducible refine wa_rg ?_ | with_reducible refine wp_of ?_ | with_reducible refine we_and ?_ | with_reducible refine we_or ?_ | with_reducible refine wo_r (addD_int _ _) ?_ | with_reducible refine wo_r (subD_int _ _) ?_ | with_reducible refine wo_r (negD_int _) ?_ | with_reducible refine wo_r (iaddD_int _ _) ?_ | with_reducible refine wo_r (ixL0 _ _ ) ?_ | with_reducible refine wo_r (ixL1 _ _ _ ) ?_ | with_reducible refine wo_r (ixL2 _ _ _ _ ) ?_ | with_reducible refine wo_r (ixL3 _ _ _ _ _ ) ?_ | with_reducible refine wo_r (ixT0 _ _ ) ?_ | with_reducible refine wo_r (ixT1 _ _ _ ) ?_ | with_reducible refine wo_r (ixT2 _ _ _ _ ) ?_ | with_reducible refine wo_r (ixT3 _ _ _ _ _ ) ?_ | refine Exists.intro _ (And.intro rfl ?_) | exact Exists.intro _ rfl | dsimp only [List.set_cons_succ, List.set_cons_zero])
  refine wf_r (ft_eq (Sp8.unit n) h) ⟨_, rfl⟩
theorem fadd_eq (s t : Sp8) : F_fine_added [enc8 s, enc8 t] = some (enc8 (Sp8.add s t)) := by
  refine fn_of (δ0 := [some (enc8 s), some (enc8 t), none, none]) rfl rfl ?_
  unfold den_fine_added
  refine ws_rt (we_call (wa_cons (we_lcm (fun p : Int × Int => .tuple [.int p.1, .int p.2]) (s.l.zip t.l) (fun p => .int (p.1 + p.2)) ?_)))
  repeat (first | with_reducible refine ws_assoc ?_ | with_reducible refine ws_asg ?_ | with_reducible refine ws_rt ?_ | with_reducible refine ws_skip ?_ | refine wg_set rfl ?_ | refine wg_tup rfl ?_ | with_reducible refine wgs_cons ?_ | with_reducible refine wgs_nil ?_ | with_reducible refine ws_par2 ?_ | with_reducible refine ws_par3 ?_ | refine ws_aug rfl ?_ | refine we_rd rfl ?_ | with_reducible refine we_cst ?_ | with_reducible refine we_c2 ?_ | with_reducible refine we_c1 ?_ | with_reducible refine we_c3 ?_ | with_reducible refine we_call ?_ | with_reducible refine wa_nil ?_ | with_reducible refine wa_cons ?_ | with_reducible refine we_tup ?_ | with_reducible refine we_lst ?_ | with_reducible refine we_ifV ?_ | with_reducible refine we_sl ?_ | with_reducible refine wp_no ?_ | with_reducible refine wt_b ?_ | with_reducible refine wt_v ?_ | with_reducible refine wt_not ?_ | with_reducible refine wt_and ?_ | with_reducible refine wt_or ?_ | with_reducible refine wt_yes ?_ | with_reducible refine wb_t ?_ | with_reducible refine wb_f ?_ | with_reducible refine wb_nt ?_ | with_reducible refine wb_nf ?_ | with_reducible refine we_rv ?_ | with_reducible refine we_ch ?_ | with_reducible refine wa_seq ?_ | with_reducible refine wa_it ?_ | with_reducible refine wa_rg ?_ | with_reducible refine wp_of ?_ | with_reducible refine we_and ?_ | with_reducible refine we_or ?_ | with_reducible refine wo_r (addD_int _ _) ?_ | with_reducible refine wo_r (subD_int _ _) ?_ | with_reducible refine wo_r (negD_int _) ?_ | with_reducible refine wo_r (iaddD_int _ _) ?_ | with_reducible refine wo_r (ixL0 _ _ ) ?_ | with_reducible refine wo_r (ixL1 _ _ _ ) ?_ | with_reducible refine wo_r (ixL2 _ _ _ _ ) ?_ | with_reducible refine wo_r (ixL3 _ _ _ _ _ ) ?_ | with_reducible refine wo_r (ixT0 _ _ ) ?_ | with_reducible refine wo_r (ixT1 _ _ _ ) ?_ | with_reducible refine wo_r (ixT2 _ _ _ _ ) ?_ | with_reducible refine wo_r (ixT3 _ _ _ _ _ ) ?_ | refine Exists.intro _ (And.intro rfl ?_) | exact Exists.intro _ rfl | dsimp only [List.set_cons_succ, List.set_cons_zero])
  refine wl_r (d := (s.l.zip t.l).map fun p : Int × Int => .tuple [.int p.1, .int p.2]) rfl ⟨rfl, fun p hp => ⟨?_⟩, ?_⟩
  · refine wg_tup rfl (wgs_cons (wg_set rfl (wgs_cons (wg_set rfl (wgs_nil ⟨rfl, wt_yes ⟨rfl, rfl, fun _ => ?_⟩⟩)))))
    unfold e1_fine_added
    repeat (first | with_reducible refine ws_assoc ?_ | with_reducible refine ws_asg ?_ | with_reducible refine ws_rt ?_ | with_reducible refine ws_skip ?_ | refine wg_set rfl ?_ | refine wg_tup rfl ?_ | with_reducible refine wgs_cons ?_ | with_reducible refine wgs_nil ?_ | with_reducible refine ws_par2 ?_ | with_reducible refine ws_par3 ?_ | refine ws_aug rfl ?_ | refine we_rd rfl ?_ | with_reducible refine we_cst ?_ | with_reducible refine we_c2 ?_ | with_reducible refine we_c1 ?_ | with_reducible refine we_c3 ?_ | with_reducible refine we_call ?_ | with_reducible refine wa_nil ?_ | with_reducible refine wa_cons ?_ | with_reducible refine we_tup ?_ | with_reducible refine we_lst ?_ | with_reducible refine we_ifV ?_ | with_reducible refine we_sl ?_ | with_reducible refine wp_no ?_ | with_reducible refine wt_b ?_ | with_reducible refine wt_v ?_ | with_reducible refine wt_not ?_ | with_reducible refine wt_and ?_ | with_reducible refine wt_or ?_ | with_reducible refine wt_yes ?_ | with_reducible refine wb_t ?_ | with_reducible refine wb_f ?_ | with_reducible refine wb_nt ?_ | with_reducible refine wb_nf ?_ | with_reducible refine we_rv ?_ | with_reducible refine we_ch ?_ | with_reducible refine wa_seq ?_ | with_reducible refine wa_it ?_ | with_reducible refine wa_rg ?_ | with_reducible refine wp_of ?_ | with_reducible refine we_and ?_ | with_reducible refine we_or ?_ | with_reducible refine wo_r (addD_int _ _) ?_ | with_reducible refine wo_r (subD_int _ _) ?_ | with_reducible refine wo_r (negD_int _) ?_ | with_reducible refine wo_r (iaddD_int _ _) ?_ | with_reducible refine wo_r (ixL0 _ _ ) ?_ | with_reducible refine wo_r (ixL1 _ _ _ ) ?_ | with_reducible refine wo_r (ixL2 _ _ _ _ ) ?_ | with_reducible refine wo_r (ixL3 _ _ _ _ _ ) ?_ | with_reducible refine wo_r (ixT0 _ _ ) ?_ | with_reducible refine wo_r (ixT1 _ _ _ ) ?_ | with_reducible refine wo_r (ixT2 _ _ _ _ ) ?_ | with_reducible refine wo_r (ixT3 _ _ _ _ _ ) ?_ | refine Exists.intro _ (And.intro rfl ?_) | exact Exists.intro _ rfl | dsimp only [List.set_cons_succ, List.set_cons_zero])
    exact ⟨rfl, rfl⟩
  · exact wa_nil (wf_r (d := enc8 (Sp8.add s t)) rfl ⟨_, rfl⟩)
theorem ixTu (k : Kf) : ixD k_FINE_TURNS k.d = some (.int k.t) := by cases k <;> kernel_rfl
theorem ixF0 (p : Pf) : ixD (encF p) (.int 0) = some p.1.d := ixT0 _ _
theorem fs_eq (p : Pf) (h : Int) : F_fine_step [encF p, .int h] = some (enc8 (stepF p h)) := by
  refine fn_of (δ0 := [some (encF p), some (.int h), none, none, none, none]) rfl rfl ?_
  unfold den_fine_step
  refine ws_asg (we_rd rfl (wg_tup (ds := [p.1.d, .int p.2]) rfl (wgs_cons (wg_set rfl (wgs_cons (wg_set rfl (wgs_nil ?_)))))))
  try dsimp only [List.set_cons_succ, List.set_cons_zero]
  repeat (first | with_reducible refine ws_assoc ?_ | with_reducible refine ws_asg ?_ | with_reducible refine ws_rt ?_ | with_reducible refine ws_skip ?_ | refine wg_set rfl ?_ | refine wg_tup rfl ?_ | with_reducible refine wgs_cons ?_ | with_reducible refine wgs_nil ?_ | with_reducible refine ws_par2 ?_ | with_reducible refine ws_par3 ?_ | refine ws_aug rfl ?_ | refine we_rd rfl ?_ | with_reducible refine we_cst ?_ | with_reducible refine we_c2 ?_ | with_reducible refine we_c1 ?_ | with_reducible refine we_c3 ?_ | with_reducible refine we_call ?_ | with_reducible refine wa_nil ?_ | with_reducible refine wa_cons ?_ | with_reducible refine we_tup ?_ | with_reducible refine we_lst ?_ | with_reducible refine we_ifV ?_ | with_reducible refine we_sl ?_ | with_reducible refine wp_no ?_ | with_reducible refine wt_b ?_ | with_reducible refine wt_v ?_ | with_reducible refine wt_not ?_ | with_reducible refine wt_and ?_ | with_reducible refine wt_or ?_ | with_reducible refine wt_yes ?_ | with_reducible refine wb_t ?_ | with_reducible refine wb_f ?_ | with_reducible refine wb_nt ?_ | with_reducible refine wb_nf ?_ | with_reducible refine we_rv ?_ | with_reducible refine we_ch ?_ | with_reducible refine wa_seq ?_ | with_reducible refine wa_it ?_ | with_reducible refine wa_rg ?_ | with_reducible refine wp_of ?_ | with_reducible refine we_and ?_ | with_reducible refine we_or ?_ | with_reducible refine wo_r (addD_int _ _) ?_ | with_reducible refine wo_r (subD_int _ _) ?_ | with_reducible refine wo_r (negD_int _) ?_ | with_reducible refine wo_r (iaddD_int _ _) ?_ | with_reducible refine wo_r (ixL0 _ _ ) ?_ | with_reducible refine wo_r (ixL1 _ _ _ ) ?_ | with_reducible refine wo_r (ixL2 _ _ _ _ ) ?_ | with_reducible refine wo_r (ixL3 _ _ _ _ _ ) ?_ | with_reducible refine wo_r (ixT0 _ _ ) ?_ | with_reducible refine wo_r (ixT1 _ _ _ ) ?_ | with_reducible refine wo_r (ixT2 _ _ _ _ ) ?_ | with_reducible refine wo_r (ixT3 _ _ _ _ _ ) ?_ | with_reducible refine wo_r (ixTu p.1) ?_ | refine Exists.intro _ (And.intro rfl ?_) | exact Exists.intro _ rfl | dsimp only [List.set_cons_succ, List.set_cons_zero])
  refine ws_if (wt_b (we_c2 (we_rd rfl (we_cst (wo_r (eqD_int _ _) ⟨_, rfl, ?_⟩)))))
  unfold stepF
  obtain ⟨k, n⟩ := p
  cases k
  case s =>
    refine wb_of (c := true) rfl (wb_t ?_)
    rw [if_pos rfl]
    repeat (first | with_reducible refine ws_assoc ?_ | with_reducible refine ws_asg ?_ | with_reducible refine ws_rt ?_ | with_reducible refine ws_skip ?_ | refine wg_set rfl ?_ | refine wg_tup rfl ?_ | with_reducible refine wgs_cons ?_ | with_reducible refine wgs_nil ?_ | with_reducible refine ws_par2 ?_ | with_reducible refine ws_par3 ?_ | refine ws_aug rfl ?_ | refine we_rd rfl ?_ | with_reducible refine we_cst ?_ | with_reducible refine we_c2 ?_ | with_reducible refine we_c1 ?_ | with_reducible refine we_c3 ?_ | with_reducible refine we_call ?_ | with_reducible refine wa_nil ?_ | with_reducible refine wa_cons ?_ | with_reducible refine we_tup ?_ | with_reducible refine we_lst ?_ | with_reducible refine we_ifV ?_ | with_reducible refine we_sl ?_ | with_reducible refine wp_no ?_ | with_reducible refine wt_b ?_ | with_reducible refine wt_v ?_ | with_reducible refine wt_not ?_ | with_reducible refine wt_and ?_ | with_reducible refine wt_or ?_ | with_reducible refine wt_yes ?_ | with_reducible refine wb_t ?_ | with_reducible refine wb_f ?_ | with_reducible refine wb_nt ?_ | with_reducible refine wb_nf ?_ | with_reducible refine we_rv ?_ | with_reducible refine we_ch ?_ | with_reducible refine wa_seq ?_ | with_reducible refine wa_it ?_ | with_reducible refine wa_rg ?_ | with_reducible refine wp_of ?_ | with_reducible refine we_and ?_ | with_reducible refine we_or ?_ | with_reducible refine wo_r (addD_int _ _) ?_ | with_reducible refine wo_r (subD_int _ _) ?_ | with_reducible refine wo_r (negD_int _) ?_ | with_reducible refine wo_r (iaddD_int _ _) ?_ | with_reducible refine wo_r (ixL0 _ _ ) ?_ | with_reducible refine wo_r (ixL1 _ _ _ ) ?_ | with_reducible refine wo_r (ixL2 _ _ _ _ ) ?_ | with_reducible refine wo_r (ixL3 _ _ _ _ _ ) ?_ | with_reducible refine wo_r (ixT0 _ _ ) ?_ | with_reducible refine wo_r (ixT1 _ _ _ ) ?_ | with_reducible refine wo_r (ixT2 _ _ _ _ ) ?_ | with_reducible refine wo_r (ixT3 _ _ _ _ _ ) ?_ | with_reducible refine wf_r (fa_eq h n) ?_ | refine Exists.intro _ (And.intro rfl ?_) | exact Exists.intro _ rfl | dsimp only [List.set_cons_succ, List.set_cons_zero])
  all_goals
    refine wb_of (c := false) rfl (wb_f (ws_skip ?_))
    rw [if_neg (by intro z; cases z)]
  case hl =>
    refine ws_asg (we_ifV (wt_b (we_c2 (we_rd rfl (we_cst (wo_r (gtD_int _ _) ⟨_, rfl, wb_of (c := true) rfl (wb_t ?_)⟩))))))
    repeat (first | with_reducible refine ws_assoc ?_ | with_reducible refine ws_asg ?_ | with_reducible refine ws_rt ?_ | with_reducible refine ws_skip ?_ | refine wg_set rfl ?_ | refine wg_tup rfl ?_ | with_reducible refine wgs_cons ?_ | with_reducible refine wgs_nil ?_ | with_reducible refine ws_par2 ?_ | with_reducible refine ws_par3 ?_ | refine ws_aug rfl ?_ | refine we_rd rfl ?_ | with_reducible refine we_cst ?_ | with_reducible refine we_c2 ?_ | with_reducible refine we_c1 ?_ | with_reducible refine we_c3 ?_ | with_reducible refine we_call ?_ | with_reducible refine wa_nil ?_ | with_reducible refine wa_cons ?_ | with_reducible refine we_tup ?_ | with_reducible refine we_lst ?_ | with_reducible refine we_ifV ?_ | with_reducible refine we_sl ?_ | with_reducible refine wp_no ?_ | with_reducible refine wt_b ?_ | with_reducible refine wt_v ?_ | with_reducible refine wt_not ?_ | with_reducible refine wt_and ?_ | with_reducible refine wt_or ?_ | with_reducible refine wt_yes ?_ | with_reducible refine wb_t ?_ | with_reducible refine wb_f ?_ | with_reducible refine wb_nt ?_ | with_reducible refine wb_nf ?_ | with_reducible refine we_rv ?_ | with_reducible refine we_ch ?_ | with_reducible refine wa_seq ?_ | with_reducible refine wa_it ?_ | with_reducible refine wa_rg ?_ | with_reducible refine wp_of ?_ | with_reducible refine we_and ?_ | with_reducible refine we_or ?_ | with_reducible refine wo_r (addD_int _ _) ?_ | with_reducible refine wo_r (subD_int _ _) ?_ | with_reducible refine wo_r (negD_int _) ?_ | with_reducible refine wo_r (iaddD_int _ _) ?_ | with_reducible refine wo_r (ixL0 _ _ ) ?_ | with_reducible refine wo_r (ixL1 _ _ _ ) ?_ | with_reducible refine wo_r (ixL2 _ _ _ _ ) ?_ | with_reducible refine wo_r (ixL3 _ _ _ _ _ ) ?_ | with_reducible refine wo_r (ixT0 _ _ ) ?_ | with_reducible refine wo_r (ixT1 _ _ _ ) ?_ | with_reducible refine wo_r (ixT2 _ _ _ _ ) ?_ | with_reducible refine wo_r (ixT3 _ _ _ _ _ ) ?_ | with_reducible refine wf_r (fa_eq _ _) ?_ | with_reducible refine wf_r (fadd_eq _ _) ?_ | refine Exists.intro _ (And.intro rfl ?_) | exact Exists.intro _ rfl | dsimp only [List.set_cons_succ, List.set_cons_zero])
  case l =>
    refine ws_asg (we_ifV (wt_b (we_c2 (we_rd rfl (we_cst (wo_r (gtD_int _ _) ⟨_, rfl, wb_of (c := true) rfl (wb_t ?_)⟩))))))
    repeat (first | with_reducible refine ws_assoc ?_ | with_reducible refine ws_asg ?_ | with_reducible refine ws_rt ?_ | with_reducible refine ws_skip ?_ | refine wg_set rfl ?_ | refine wg_tup rfl ?_ | with_reducible refine wgs_cons ?_ | with_reducible refine wgs_nil ?_ | with_reducible refine ws_par2 ?_ | with_reducible refine ws_par3 ?_ | refine ws_aug rfl ?_ | refine we_rd rfl ?_ | with_reducible refine we_cst ?_ | with_reducible refine we_c2 ?_ | with_reducible refine we_c1 ?_ | with_reducible refine we_c3 ?_ | with_reducible refine we_call ?_ | with_reducible refine wa_nil ?_ | with_reducible refine wa_cons ?_ | with_reducible refine we_tup ?_ | with_reducible refine we_lst ?_ | with_reducible refine we_ifV ?_ | with_reducible refine we_sl ?_ | with_reducible refine wp_no ?_ | with_reducible refine wt_b ?_ | with_reducible refine wt_v ?_ | with_reducible refine wt_not ?_ | with_reducible refine wt_and ?_ | with_reducible refine wt_or ?_ | with_reducible refine wt_yes ?_ | with_reducible refine wb_t ?_ | with_reducible refine wb_f ?_ | with_reducible refine wb_nt ?_ | with_reducible refine wb_nf ?_ | with_reducible refine we_rv ?_ | with_reducible refine we_ch ?_ | with_reducible refine wa_seq ?_ | with_reducible refine wa_it ?_ | with_reducible refine wa_rg ?_ | with_reducible refine wp_of ?_ | with_reducible refine we_and ?_ | with_reducible refine we_or ?_ | with_reducible refine wo_r (addD_int _ _) ?_ | with_reducible refine wo_r (subD_int _ _) ?_ | with_reducible refine wo_r (negD_int _) ?_ | with_reducible refine wo_r (iaddD_int _ _) ?_ | with_reducible refine wo_r (ixL0 _ _ ) ?_ | with_reducible refine wo_r (ixL1 _ _ _ ) ?_ | with_reducible refine wo_r (ixL2 _ _ _ _ ) ?_ | with_reducible refine wo_r (ixL3 _ _ _ _ _ ) ?_ | with_reducible refine wo_r (ixT0 _ _ ) ?_ | with_reducible refine wo_r (ixT1 _ _ _ ) ?_ | with_reducible refine wo_r (ixT2 _ _ _ _ ) ?_ | with_reducible refine wo_r (ixT3 _ _ _ _ _ ) ?_ | with_reducible refine wf_r (fa_eq _ _) ?_ | with_reducible refine wf_r (fadd_eq _ _) ?_ | refine Exists.intro _ (And.intro rfl ?_) | exact Exists.intro _ rfl | dsimp only [List.set_cons_succ, List.set_cons_zero])
  case hr =>
    refine ws_asg (we_ifV (wt_b (we_c2 (we_rd rfl (we_cst (wo_r (gtD_int _ _) ⟨_, rfl, wb_of (c := false) rfl (wb_f ?_)⟩))))))
    repeat (first | with_reducible refine ws_assoc ?_ | with_reducible refine ws_asg ?_ | with_reducible refine ws_rt ?_ | with_reducible refine ws_skip ?_ | refine wg_set rfl ?_ | refine wg_tup rfl ?_ | with_reducible refine wgs_cons ?_ | with_reducible refine wgs_nil ?_ | with_reducible refine ws_par2 ?_ | with_reducible refine ws_par3 ?_ | refine ws_aug rfl ?_ | refine we_rd rfl ?_ | with_reducible refine we_cst ?_ | with_reducible refine we_c2 ?_ | with_reducible refine we_c1 ?_ | with_reducible refine we_c3 ?_ | with_reducible refine we_call ?_ | with_reducible refine wa_nil ?_ | with_reducible refine wa_cons ?_ | with_reducible refine we_tup ?_ | with_reducible refine we_lst ?_ | with_reducible refine we_ifV ?_ | with_reducible refine we_sl ?_ | with_reducible refine wp_no ?_ | with_reducible refine wt_b ?_ | with_reducible refine wt_v ?_ | with_reducible refine wt_not ?_ | with_reducible refine wt_and ?_ | with_reducible refine wt_or ?_ | with_reducible refine wt_yes ?_ | with_reducible refine wb_t ?_ | with_reducible refine wb_f ?_ | with_reducible refine wb_nt ?_ | with_reducible refine wb_nf ?_ | with_reducible refine we_rv ?_ | with_reducible refine we_ch ?_ | with_reducible refine wa_seq ?_ | with_reducible refine wa_it ?_ | with_reducible refine wa_rg ?_ | with_reducible refine wp_of ?_ | with_reducible refine we_and ?_ | with_reducible refine we_or ?_ | with_reducible refine wo_r (addD_int _ _) ?_ | with_reducible refine wo_r (subD_int _ _) ?_ | with_reducible refine wo_r (negD_int _) ?_ | with_reducible refine wo_r (iaddD_int _ _) ?_ | with_reducible refine wo_r (ixL0 _ _ ) ?_ | with_reducible refine wo_r (ixL1 _ _ _ ) ?_ | with_reducible refine wo_r (ixL2 _ _ _ _ ) ?_ | with_reducible refine wo_r (ixL3 _ _ _ _ _ ) ?_ | with_reducible refine wo_r (ixT0 _ _ ) ?_ | with_reducible refine wo_r (ixT1 _ _ _ ) ?_ | with_reducible refine wo_r (ixT2 _ _ _ _ ) ?_ | with_reducible refine wo_r (ixT3 _ _ _ _ _ ) ?_ | with_reducible refine wf_r (fa_eq _ _) ?_ | with_reducible refine wf_r (fadd_eq _ _) ?_ | refine Exists.intro _ (And.intro rfl ?_) | exact Exists.intro _ rfl | dsimp only [List.set_cons_succ, List.set_cons_zero])
  case r =>
    refine ws_asg (we_ifV (wt_b (we_c2 (we_rd rfl (we_cst (wo_r (gtD_int _ _) ⟨_, rfl, wb_of (c := false) rfl (wb_f ?_)⟩))))))
    repeat (first | with_reducible refine ws_assoc ?_ | with_reducible refine ws_asg ?_ | with_reducible refine ws_rt ?_ | with_reducible refine ws_skip ?_ | refine wg_set rfl ?_ | refine wg_tup rfl ?_ | with_reducible refine wgs_cons ?_ | with_reducible refine wgs_nil ?_ | with_reducible refine ws_par2 ?_ | with_reducible refine ws_par3 ?_ | refine ws_aug rfl ?_ | refine we_rd rfl ?_ | with_reducible refine we_cst ?_ | with_reducible refine we_c2 ?_ | with_reducible refine we_c1 ?_ | with_reducible refine we_c3 ?_ | with_reducible refine we_call ?_ | with_reducible refine wa_nil ?_ | with_reducible refine wa_cons ?_ | with_reducible refine we_tup ?_ | with_reducible refine we_lst ?_ | with_reducible refine we_ifV ?_ | with_reducible refine we_sl ?_ | with_reducible refine wp_no ?_ | with_reducible refine wt_b ?_ | with_reducible refine wt_v ?_ | with_reducible refine wt_not ?_ | with_reducible refine wt_and ?_ | with_reducible refine wt_or ?_ | with_reducible refine wt_yes ?_ | with_reducible refine wb_t ?_ | with_reducible refine wb_f ?_ | with_reducible refine wb_nt ?_ | with_reducible refine wb_nf ?_ | with_reducible refine we_rv ?_ | with_reducible refine we_ch ?_ | with_reducible refine wa_seq ?_ | with_reducible refine wa_it ?_ | with_reducible refine wa_rg ?_ | with_reducible refine wp_of ?_ | with_reducible refine we_and ?_ | with_reducible refine we_or ?_ | with_reducible refine wo_r (addD_int _ _) ?_ | with_reducible refine wo_r (subD_int _ _) ?_ | with_reducible refine wo_r (negD_int _) ?_ | with_reducible refine wo_r (iaddD_int _ _) ?_ | with_reducible refine wo_r (ixL0 _ _ ) ?_ | with_reducible refine wo_r (ixL1 _ _ _ ) ?_ | with_reducible refine wo_r (ixL2 _ _ _ _ ) ?_ | with_reducible refine wo_r (ixL3 _ _ _ _ _ ) ?_ | with_reducible refine wo_r (ixT0 _ _ ) ?_ | with_reducible refine wo_r (ixT1 _ _ _ ) ?_ | with_reducible refine wo_r (ixT2 _ _ _ _ ) ?_ | with_reducible refine wo_r (ixT3 _ _ _ _ _ ) ?_ | with_reducible refine wf_r (fa_eq _ _) ?_ | with_reducible refine wf_r (fadd_eq _ _) ?_ | refine Exists.intro _ (And.intro rfl ?_) | exact Exists.intro _ rfl | dsimp only [List.set_cons_succ, List.set_cons_zero])
def encPf (q : Pof) : D := .tuple [enc8 q.1, .int q.2]
theorem fp_eq (q : Pof) (t : List Pf) : F_fine_pose_after [encPf q, encTf t] = some (encPf (t.foldl behF q)) := by
  refine fn_of (δ0 := [some (encPf q), some (encTf t), none, none, none]) rfl rfl ?_
  unfold den_fine_pose_after
  refine ws_asg (we_rd rfl (wg_tup (ds := [enc8 q.1, .int q.2]) rfl (wgs_cons (wg_set rfl (wgs_cons (wg_set rfl (wgs_nil ?_)))))))
  try dsimp only [List.set_cons_succ, List.set_cons_zero]
  refine ws_forS encF t (fun (st : Pof) δ => ∃ x, δ = [some (encPf q), some (encTf t), some (enc8 st.1), some (.int st.2), x]) behF q (wa_seq (we_rd rfl (wl_r (d := t.map encF) rfl ⟨rfl, ⟨none, rfl⟩, ?_, ?_⟩)))
  · rintro ⟨s, h⟩ p _ hp ⟨x, rfl⟩
    refine wg_set rfl ?_
    unfold b1_fine_pose_after
    repeat (first | with_reducible refine ws_assoc ?_ | with_reducible refine ws_asg ?_ | with_reducible refine ws_rt ?_ | with_reducible refine ws_skip ?_ | refine wg_set rfl ?_ | refine wg_tup rfl ?_ | with_reducible refine wgs_cons ?_ | with_reducible refine wgs_nil ?_ | with_reducible refine ws_par2 ?_ | with_reducible refine ws_par3 ?_ | refine ws_aug rfl ?_ | refine we_rd rfl ?_ | with_reducible refine we_cst ?_ | with_reducible refine we_c2 ?_ | with_reducible refine we_c1 ?_ | with_reducible refine we_c3 ?_ | with_reducible refine we_call ?_ | with_reducible refine wa_nil ?_ | with_reducible refine wa_cons ?_ | with_reducible refine we_tup ?_ | with_reducible refine we_lst ?_ | with_reducible refine we_ifV ?_ | with_reducible refine we_sl ?_ | with_reducible refine wp_no ?_ | with_reducible refine wt_b ?_ | with_reducible refine wt_v ?_ | with_reducible refine wt_not ?_ | with_reducible refine wt_and ?_ | with_reducible refine wt_or ?_ | with_reducible refine wt_yes ?_ | with_reducible refine wb_t ?_ | with_reducible refine wb_f ?_ | with_reducible refine wb_nt ?_ | with_reducible refine wb_nf ?_ | with_reducible refine we_rv ?_ | with_reducible refine we_ch ?_ | with_reducible refine wa_seq ?_ | with_reducible refine wa_it ?_ | with_reducible refine wa_rg ?_ | with_reducible refine wp_of ?_ | with_reducible refine we_and ?_ | with_reducible refine we_or ?_ | with_reducible refine wo_r (addD_int _ _) ?_ | with_reducible refine wo_r (subD_int _ _) ?_ | with_reducible refine wo_r (negD_int _) ?_ | with_reducible refine wo_r (iaddD_int _ _) ?_ | with_reducible refine wo_r (ixL0 _ _ ) ?_ | with_reducible refine wo_r (ixL1 _ _ _ ) ?_ | with_reducible refine wo_r (ixL2 _ _ _ _ ) ?_ | with_reducible refine wo_r (ixL3 _ _ _ _ _ ) ?_ | with_reducible refine wo_r (ixT0 _ _ ) ?_ | with_reducible refine wo_r (ixT1 _ _ _ ) ?_ | with_reducible refine wo_r (ixT2 _ _ _ _ ) ?_ | with_reducible refine wo_r (ixT3 _ _ _ _ _ ) ?_ | with_reducible refine wf_r (fs_eq p h) ?_ | with_reducible refine wf_r (fadd_eq _ _) ?_ | with_reducible refine wo_r (ixF0 p) ?_ | with_reducible refine wo_r (ixTu p.1) ?_ | refine Exists.intro _ (And.intro rfl ?_) | exact Exists.intro _ rfl | dsimp only [List.set_cons_succ, List.set_cons_zero])
    refine wo_r (modD_pos (j := 16) (by decide)) ?_
    repeat (first | with_reducible refine ws_assoc ?_ | with_reducible refine ws_asg ?_ | with_reducible refine ws_rt ?_ | with_reducible refine ws_skip ?_ | refine wg_set rfl ?_ | refine wg_tup rfl ?_ | with_reducible refine wgs_cons ?_ | with_reducible refine wgs_nil ?_ | with_reducible refine ws_par2 ?_ | with_reducible refine ws_par3 ?_ | refine ws_aug rfl ?_ | refine we_rd rfl ?_ | with_reducible refine we_cst ?_ | with_reducible refine we_c2 ?_ | with_reducible refine we_c1 ?_ | with_reducible refine we_c3 ?_ | with_reducible refine we_call ?_ | with_reducible refine wa_nil ?_ | with_reducible refine wa_cons ?_ | with_reducible refine we_tup ?_ | with_reducible refine we_lst ?_ | with_reducible refine we_ifV ?_ | with_reducible refine we_sl ?_ | with_reducible refine wp_no ?_ | with_reducible refine wt_b ?_ | with_reducible refine wt_v ?_ | with_reducible refine wt_not ?_ | with_reducible refine wt_and ?_ | with_reducible refine wt_or ?_ | with_reducible refine wt_yes ?_ | with_reducible refine wb_t ?_ | with_reducible refine wb_f ?_ | with_reducible refine wb_nt ?_ | with_reducible refine wb_nf ?_ | with_reducible refine we_rv ?_ | with_reducible refine we_ch ?_ | with_reducible refine wa_seq ?_ | with_reducible refine wa_it ?_ | with_reducible refine wa_rg ?_ | with_reducible refine wp_of ?_ | with_reducible refine we_and ?_ | with_reducible refine we_or ?_ | with_reducible refine wo_r (addD_int _ _) ?_ | with_reducible refine wo_r (subD_int _ _) ?_ | with_reducible refine wo_r (negD_int _) ?_ | with_reducible refine wo_r (iaddD_int _ _) ?_ | with_reducible refine wo_r (ixL0 _ _ ) ?_ | with_reducible refine wo_r (ixL1 _ _ _ ) ?_ | with_reducible refine wo_r (ixL2 _ _ _ _ ) ?_ | with_reducible refine wo_r (ixL3 _ _ _ _ _ ) ?_ | with_reducible refine wo_r (ixT0 _ _ ) ?_ | with_reducible refine wo_r (ixT1 _ _ _ ) ?_ | with_reducible refine wo_r (ixT2 _ _ _ _ ) ?_ | with_reducible refine wo_r (ixT3 _ _ _ _ _ ) ?_ | refine Exists.intro _ (And.intro rfl ?_) | exact Exists.intro _ rfl | dsimp only [List.set_cons_succ, List.set_cons_zero])
    exact ws_end ⟨_, rfl⟩
  · rintro _ ⟨x, rfl⟩
    repeat (first | with_reducible refine ws_assoc ?_ | with_reducible refine ws_asg ?_ | with_reducible refine ws_rt ?_ | with_reducible refine ws_skip ?_ | refine wg_set rfl ?_ | refine wg_tup rfl ?_ | with_reducible refine wgs_cons ?_ | with_reducible refine wgs_nil ?_ | with_reducible refine ws_par2 ?_ | with_reducible refine ws_par3 ?_ | refine ws_aug rfl ?_ | refine we_rd rfl ?_ | with_reducible refine we_cst ?_ | with_reducible refine we_c2 ?_ | with_reducible refine we_c1 ?_ | with_reducible refine we_c3 ?_ | with_reducible refine we_call ?_ | with_reducible refine wa_nil ?_ | with_reducible refine wa_cons ?_ | with_reducible refine we_tup ?_ | with_reducible refine we_lst ?_ | with_reducible refine we_ifV ?_ | with_reducible refine we_sl ?_ | with_reducible refine wp_no ?_ | with_reducible refine wt_b ?_ | with_reducible refine wt_v ?_ | with_reducible refine wt_not ?_ | with_reducible refine wt_and ?_ | with_reducible refine wt_or ?_ | with_reducible refine wt_yes ?_ | with_reducible refine wb_t ?_ | with_reducible refine wb_f ?_ | with_reducible refine wb_nt ?_ | with_reducible refine wb_nf ?_ | with_reducible refine we_rv ?_ | with_reducible refine we_ch ?_ | with_reducible refine wa_seq ?_ | with_reducible refine wa_it ?_ | with_reducible refine wa_rg ?_ | with_reducible refine wp_of ?_ | with_reducible refine we_and ?_ | with_reducible refine we_or ?_ | with_reducible refine wo_r (addD_int _ _) ?_ | with_reducible refine wo_r (subD_int _ _) ?_ | with_reducible refine wo_r (negD_int _) ?_ | with_reducible refine wo_r (iaddD_int _ _) ?_ | with_reducible refine wo_r (ixL0 _ _ ) ?_ | with_reducible refine wo_r (ixL1 _ _ _ ) ?_ | with_reducible refine wo_r (ixL2 _ _ _ _ ) ?_ | with_reducible refine wo_r (ixL3 _ _ _ _ _ ) ?_ | with_reducible refine wo_r (ixT0 _ _ ) ?_ | with_reducible refine wo_r (ixT1 _ _ _ ) ?_ | with_reducible refine wo_r (ixT2 _ _ _ _ ) ?_ | with_reducible refine wo_r (ixT3 _ _ _ _ _ ) ?_ | refine Exists.intro _ (And.intro rfl ?_) | exact Exists.intro _ rfl | dsimp only [List.set_cons_succ, List.set_cons_zero])
theorem m16 (h : Int) : ∃ n : Nat, h % 16 = n ∧ n < 16 ∧ (h % 16).toNat = n := ⟨(h % 16).toNat, by omega, by omega, rfl⟩
theorem eqKf (k m : Kf) : eqD k.d m.d = some (.bool (decide (k = m))) := by cases k <;> cases m <;> kernel_rfl
def ls8 (s : Sp8) : D := .list (s.l.map .int)
theorem lix7 (s : Sp8) : ixD (ls8 s) (.int 7) = some (.int s.h) := atI_nat (i := 7) rfl
theorem lsl7 (s : Sp8) : slD (ls8 s) none (some 7) = some (.list [.int s.a, .int s.b, .int s.c, .int s.d, .int s.e, .int s.f, .int s.g]) := by
  unfold ls8
  rw [slD_list (by rfl)]
  exact congrArg (fun l => some (PyData.list l)) (cut_take (s.l.map .int) 7)
theorem lt_eq (s : Sp8) (k : Int) : F__law_turned [enc8 s, .int k] = some (enc8 (turn8 k s)) := by
  refine fn_of (δ0 := [some (enc8 s), some (.int k), none, none]) rfl rfl ?_
  unfold den__law_turned
  have l0 : listD [enc8 s] = some (ls8 s) := rfl
  refine ws_asg (we_call (wa_cons (we_rd rfl (wa_nil (wf_r l0 (wg_set rfl ?_))))))
  try dsimp only [List.set_cons_succ, List.set_cons_zero]
  refine ws_forP (fun i : Nat => (.int i : D)) (List.range (k % 16).toNat) (fun pre δ => ∃ x, δ = [some (enc8 s), some (.int k), some (ls8 (Sp8.rotN pre.length s)), x]) ?_
  repeat (first | with_reducible refine ws_assoc ?_ | with_reducible refine ws_asg ?_ | with_reducible refine ws_rt ?_ | with_reducible refine ws_skip ?_ | refine wg_set rfl ?_ | refine wg_tup rfl ?_ | with_reducible refine wgs_cons ?_ | with_reducible refine wgs_nil ?_ | with_reducible refine ws_par2 ?_ | with_reducible refine ws_par3 ?_ | refine ws_aug rfl ?_ | refine we_rd rfl ?_ | with_reducible refine we_cst ?_ | with_reducible refine we_c2 ?_ | with_reducible refine we_c1 ?_ | with_reducible refine we_c3 ?_ | with_reducible refine we_call ?_ | with_reducible refine wa_nil ?_ | with_reducible refine wa_cons ?_ | with_reducible refine we_tup ?_ | with_reducible refine we_lst ?_ | with_reducible refine we_ifV ?_ | with_reducible refine we_sl ?_ | with_reducible refine wp_no ?_ | with_reducible refine wt_b ?_ | with_reducible refine wt_v ?_ | with_reducible refine wt_not ?_ | with_reducible refine wt_and ?_ | with_reducible refine wt_or ?_ | with_reducible refine wt_yes ?_ | with_reducible refine wb_t ?_ | with_reducible refine wb_f ?_ | with_reducible refine wb_nt ?_ | with_reducible refine wb_nf ?_ | with_reducible refine we_rv ?_ | with_reducible refine we_ch ?_ | with_reducible refine wa_seq ?_ | with_reducible refine wa_it ?_ | with_reducible refine wa_rg ?_ | with_reducible refine wp_of ?_ | with_reducible refine we_and ?_ | with_reducible refine we_or ?_ | with_reducible refine wo_r (addD_int _ _) ?_ | with_reducible refine wo_r (subD_int _ _) ?_ | with_reducible refine wo_r (negD_int _) ?_ | with_reducible refine wo_r (iaddD_int _ _) ?_ | with_reducible refine wo_r (ixL0 _ _ ) ?_ | with_reducible refine wo_r (ixL1 _ _ _ ) ?_ | with_reducible refine wo_r (ixL2 _ _ _ _ ) ?_ | with_reducible refine wo_r (ixL3 _ _ _ _ _ ) ?_ | with_reducible refine wo_r (ixT0 _ _ ) ?_ | with_reducible refine wo_r (ixT1 _ _ _ ) ?_ | with_reducible refine wo_r (ixT2 _ _ _ _ ) ?_ | with_reducible refine wo_r (ixT3 _ _ _ _ _ ) ?_ | refine Exists.intro _ (And.intro rfl ?_) | exact Exists.intro _ rfl | dsimp only [List.set_cons_succ, List.set_cons_zero])
  refine wo_r (fdivD_pos (by decide) (by decide)) ?_
  repeat (first | with_reducible refine ws_assoc ?_ | with_reducible refine ws_asg ?_ | with_reducible refine ws_rt ?_ | with_reducible refine ws_skip ?_ | refine wg_set rfl ?_ | refine wg_tup rfl ?_ | with_reducible refine wgs_cons ?_ | with_reducible refine wgs_nil ?_ | with_reducible refine ws_par2 ?_ | with_reducible refine ws_par3 ?_ | refine ws_aug rfl ?_ | refine we_rd rfl ?_ | with_reducible refine we_cst ?_ | with_reducible refine we_c2 ?_ | with_reducible refine we_c1 ?_ | with_reducible refine we_c3 ?_ | with_reducible refine we_call ?_ | with_reducible refine wa_nil ?_ | with_reducible refine wa_cons ?_ | with_reducible refine we_tup ?_ | with_reducible refine we_lst ?_ | with_reducible refine we_ifV ?_ | with_reducible refine we_sl ?_ | with_reducible refine wp_no ?_ | with_reducible refine wt_b ?_ | with_reducible refine wt_v ?_ | with_reducible refine wt_not ?_ | with_reducible refine wt_and ?_ | with_reducible refine wt_or ?_ | with_reducible refine wt_yes ?_ | with_reducible refine wb_t ?_ | with_reducible refine wb_f ?_ | with_reducible refine wb_nt ?_ | with_reducible refine wb_nf ?_ | with_reducible refine we_rv ?_ | with_reducible refine we_ch ?_ | with_reducible refine wa_seq ?_ | with_reducible refine wa_it ?_ | with_reducible refine wa_rg ?_ | with_reducible refine wp_of ?_ | with_reducible refine we_and ?_ | with_reducible refine we_or ?_ | with_reducible refine wo_r (addD_int _ _) ?_ | with_reducible refine wo_r (subD_int _ _) ?_ | with_reducible refine wo_r (negD_int _) ?_ | with_reducible refine wo_r (iaddD_int _ _) ?_ | with_reducible refine wo_r (ixL0 _ _ ) ?_ | with_reducible refine wo_r (ixL1 _ _ _ ) ?_ | with_reducible refine wo_r (ixL2 _ _ _ _ ) ?_ | with_reducible refine wo_r (ixL3 _ _ _ _ _ ) ?_ | with_reducible refine wo_r (ixT0 _ _ ) ?_ | with_reducible refine wo_r (ixT1 _ _ _ ) ?_ | with_reducible refine wo_r (ixT2 _ _ _ _ ) ?_ | with_reducible refine wo_r (ixT3 _ _ _ _ _ ) ?_ | refine Exists.intro _ (And.intro rfl ?_) | exact Exists.intro _ rfl | dsimp only [List.set_cons_succ, List.set_cons_zero])
  refine wo_r (mulD_int (.inr (by decide))) ?_
  repeat (first | with_reducible refine ws_assoc ?_ | with_reducible refine ws_asg ?_ | with_reducible refine ws_rt ?_ | with_reducible refine ws_skip ?_ | refine wg_set rfl ?_ | refine wg_tup rfl ?_ | with_reducible refine wgs_cons ?_ | with_reducible refine wgs_nil ?_ | with_reducible refine ws_par2 ?_ | with_reducible refine ws_par3 ?_ | refine ws_aug rfl ?_ | refine we_rd rfl ?_ | with_reducible refine we_cst ?_ | with_reducible refine we_c2 ?_ | with_reducible refine we_c1 ?_ | with_reducible refine we_c3 ?_ | with_reducible refine we_call ?_ | with_reducible refine wa_nil ?_ | with_reducible refine wa_cons ?_ | with_reducible refine we_tup ?_ | with_reducible refine we_lst ?_ | with_reducible refine we_ifV ?_ | with_reducible refine we_sl ?_ | with_reducible refine wp_no ?_ | with_reducible refine wt_b ?_ | with_reducible refine wt_v ?_ | with_reducible refine wt_not ?_ | with_reducible refine wt_and ?_ | with_reducible refine wt_or ?_ | with_reducible refine wt_yes ?_ | with_reducible refine wb_t ?_ | with_reducible refine wb_f ?_ | with_reducible refine wb_nt ?_ | with_reducible refine wb_nf ?_ | with_reducible refine we_rv ?_ | with_reducible refine we_ch ?_ | with_reducible refine wa_seq ?_ | with_reducible refine wa_it ?_ | with_reducible refine wa_rg ?_ | with_reducible refine wp_of ?_ | with_reducible refine we_and ?_ | with_reducible refine we_or ?_ | with_reducible refine wo_r (addD_int _ _) ?_ | with_reducible refine wo_r (subD_int _ _) ?_ | with_reducible refine wo_r (negD_int _) ?_ | with_reducible refine wo_r (iaddD_int _ _) ?_ | with_reducible refine wo_r (ixL0 _ _ ) ?_ | with_reducible refine wo_r (ixL1 _ _ _ ) ?_ | with_reducible refine wo_r (ixL2 _ _ _ _ ) ?_ | with_reducible refine wo_r (ixL3 _ _ _ _ _ ) ?_ | with_reducible refine wo_r (ixT0 _ _ ) ?_ | with_reducible refine wo_r (ixT1 _ _ _ ) ?_ | with_reducible refine wo_r (ixT2 _ _ _ _ ) ?_ | with_reducible refine wo_r (ixT3 _ _ _ _ _ ) ?_ | refine Exists.intro _ (And.intro rfl ?_) | exact Exists.intro _ rfl | dsimp only [List.set_cons_succ, List.set_cons_zero])
  rw [show k - k / 16 * 16 = k % 16 by omega]
  obtain ⟨n, hn, hn1, hn2⟩ := m16 k
  rw [hn2, hn]
  refine wl_r (rg1_nat (by omega)) ⟨rfl, ⟨none, rfl⟩, ?_, ?_⟩
  · rintro pre i post _ hpre ⟨x, rfl⟩
    refine wg_set rfl ?_
    unfold b1__law_turned
    rw [List.length_append, List.length_singleton, Nat.add_comm, Sp8.rotN_add]
    have e1 : ∀ u : Sp8, addD (.list [.int (-u.h)]) (.list [.int u.a, .int u.b, .int u.c, .int u.d, .int u.e, .int u.f, .int u.g]) = some (ls8 (Sp8.rotN 1 u)) := fun u => rfl
    generalize Sp8.rotN pre.length s = u
    repeat (first | with_reducible refine ws_assoc ?_ | with_reducible refine ws_asg ?_ | with_reducible refine ws_rt ?_ | with_reducible refine ws_skip ?_ | refine wg_set rfl ?_ | refine wg_tup rfl ?_ | with_reducible refine wgs_cons ?_ | with_reducible refine wgs_nil ?_ | with_reducible refine ws_par2 ?_ | with_reducible refine ws_par3 ?_ | refine ws_aug rfl ?_ | refine we_rd rfl ?_ | with_reducible refine we_cst ?_ | with_reducible refine we_c2 ?_ | with_reducible refine we_c1 ?_ | with_reducible refine we_c3 ?_ | with_reducible refine we_call ?_ | with_reducible refine wa_nil ?_ | with_reducible refine wa_cons ?_ | with_reducible refine we_tup ?_ | with_reducible refine we_lst ?_ | with_reducible refine we_ifV ?_ | with_reducible refine we_sl ?_ | with_reducible refine wp_no ?_ | with_reducible refine wt_b ?_ | with_reducible refine wt_v ?_ | with_reducible refine wt_not ?_ | with_reducible refine wt_and ?_ | with_reducible refine wt_or ?_ | with_reducible refine wt_yes ?_ | with_reducible refine wb_t ?_ | with_reducible refine wb_f ?_ | with_reducible refine wb_nt ?_ | with_reducible refine wb_nf ?_ | with_reducible refine we_rv ?_ | with_reducible refine we_ch ?_ | with_reducible refine wa_seq ?_ | with_reducible refine wa_it ?_ | with_reducible refine wa_rg ?_ | with_reducible refine wp_of ?_ | with_reducible refine we_and ?_ | with_reducible refine we_or ?_ | with_reducible refine wo_r (addD_int _ _) ?_ | with_reducible refine wo_r (subD_int _ _) ?_ | with_reducible refine wo_r (negD_int _) ?_ | with_reducible refine wo_r (iaddD_int _ _) ?_ | with_reducible refine wo_r (ixL0 _ _ ) ?_ | with_reducible refine wo_r (ixL1 _ _ _ ) ?_ | with_reducible refine wo_r (ixL2 _ _ _ _ ) ?_ | with_reducible refine wo_r (ixL3 _ _ _ _ _ ) ?_ | with_reducible refine wo_r (ixT0 _ _ ) ?_ | with_reducible refine wo_r (ixT1 _ _ _ ) ?_ | with_reducible refine wo_r (ixT2 _ _ _ _ ) ?_ | with_reducible refine wo_r (ixT3 _ _ _ _ _ ) ?_ | with_reducible refine wo_r (lix7 u) ?_ | with_reducible refine wo_r (lsl7 u) ?_ | with_reducible refine wo_r (e1 u) ?_ | refine Exists.intro _ (And.intro rfl ?_) | exact Exists.intro _ rfl | dsimp only [List.set_cons_succ, List.set_cons_zero])
    exact ws_end ⟨_, rfl⟩
  · rintro _ ⟨x, rfl⟩
    rw [List.length_range]
    unfold turn8
    rw [hn2]
    have t0 : ∀ u : Sp8, tupleD [ls8 u] = some (enc8 u) := fun u => rfl
    repeat (first | with_reducible refine ws_assoc ?_ | with_reducible refine ws_asg ?_ | with_reducible refine ws_rt ?_ | with_reducible refine ws_skip ?_ | refine wg_set rfl ?_ | refine wg_tup rfl ?_ | with_reducible refine wgs_cons ?_ | with_reducible refine wgs_nil ?_ | with_reducible refine ws_par2 ?_ | with_reducible refine ws_par3 ?_ | refine ws_aug rfl ?_ | refine we_rd rfl ?_ | with_reducible refine we_cst ?_ | with_reducible refine we_c2 ?_ | with_reducible refine we_c1 ?_ | with_reducible refine we_c3 ?_ | with_reducible refine we_call ?_ | with_reducible refine wa_nil ?_ | with_reducible refine wa_cons ?_ | with_reducible refine we_tup ?_ | with_reducible refine we_lst ?_ | with_reducible refine we_ifV ?_ | with_reducible refine we_sl ?_ | with_reducible refine wp_no ?_ | with_reducible refine wt_b ?_ | with_reducible refine wt_v ?_ | with_reducible refine wt_not ?_ | with_reducible refine wt_and ?_ | with_reducible refine wt_or ?_ | with_reducible refine wt_yes ?_ | with_reducible refine wb_t ?_ | with_reducible refine wb_f ?_ | with_reducible refine wb_nt ?_ | with_reducible refine wb_nf ?_ | with_reducible refine we_rv ?_ | with_reducible refine we_ch ?_ | with_reducible refine wa_seq ?_ | with_reducible refine wa_it ?_ | with_reducible refine wa_rg ?_ | with_reducible refine wp_of ?_ | with_reducible refine we_and ?_ | with_reducible refine we_or ?_ | with_reducible refine wo_r (addD_int _ _) ?_ | with_reducible refine wo_r (subD_int _ _) ?_ | with_reducible refine wo_r (negD_int _) ?_ | with_reducible refine wo_r (iaddD_int _ _) ?_ | with_reducible refine wo_r (ixL0 _ _ ) ?_ | with_reducible refine wo_r (ixL1 _ _ _ ) ?_ | with_reducible refine wo_r (ixL2 _ _ _ _ ) ?_ | with_reducible refine wo_r (ixL3 _ _ _ _ _ ) ?_ | with_reducible refine wo_r (ixT0 _ _ ) ?_ | with_reducible refine wo_r (ixT1 _ _ _ ) ?_ | with_reducible refine wo_r (ixT2 _ _ _ _ ) ?_ | with_reducible refine wo_r (ixT3 _ _ _ _ _ ) ?_ | with_reducible refine wf_r (t0 _) ?_ | refine Exists.intro _ (And.intro rfl ?_) | exact Exists.intro _ rfl | dsimp only [List.set_cons_succ, List.set_cons_zero])
def kTu : D := .dict [(.str "halfleft", .int 1), (.str "halfright", .int (-1)), (.str "left", .int 2), (.str "right", .int (-2)), (.str "straight", .int 0)]
theorem ixTw (k : Kf) : ixD kTu k.d = some (.int k.t) := ixTu k
/-- the walk with a heading that is not brought back -/
def wst (q : Pof) (p : Pf) : Pof := (Sp8.add q.1 (stepF p q.2), q.2 + p.1.t)
theorem unit_neg (n k : Int) : turn8 (k + 8) (Sp8.unit n) = turn8 k (Sp8.unit (-n)) := by
  have e : Sp8.neg (Sp8.unit n) = Sp8.unit (-n) := rfl
  rw [← turn8_turn, turn8_8, e]
def wstF (t : List Pf) (q : Pof) : Pof := t.foldl wst q
theorem wstF_eq : ∀ (t : List Pf) (q : Pof), wstF t q = (Sp8.add q.1 (turn8 q.2 (dpF t)), q.2 + tsF t)
  | [], q => by
    show q = (Sp8.add q.1 (turn8 q.2 Sp8.z), q.2 + 0)
    rw [turn8_z, Sp8.add_z, Int.add_zero]
  | p :: t, q => by
    show wstF t (wst q p) = _
    rw [wstF_eq t]
    refine Prod.ext ?_ ?_
    · show Sp8.add (Sp8.add q.1 (stepF p q.2)) (turn8 (q.2 + p.1.t) (dpF t)) = Sp8.add q.1 (turn8 q.2 (Sp8.add (stepF p 0) (turn8 p.1.t (dpF t))))
      rw [turn8_add, turn8_turn, ← stepF_turn, Sp8.add_assoc]
    · show q.2 + p.1.t + tsF t = q.2 + (p.1.t + tsF t)
      omega
theorem zip_ls (s t : Sp8) : zipM [ls8 s, enc8 t] = some ((s.l.zip t.l).map fun p : Int × Int => .tuple [.int p.1, .int p.2]) := rfl
theorem walk_add (s t : Sp8) {q : CS} {Q : Fl → Prop} (x0 x1 x3 x4 x5 x6 x7 x8 x10 x11 : Option D) (h : WS q [x0, x1, some (ls8 (Sp8.add s t)), x3, x4, x5, x6, x7, x8, some (enc8 t), x10, x11] Q) : WS (seqS (asgS (stS 2) (lcV (rgV zipM (aCons (rd 2) (aCons (rd 9) aNil))) (tgT 2 (tCons' (stS 10) (tCons' (stS 11) tNil'))) [10, 11] yesT e1__law_walk)) q) [x0, x1, some (ls8 s), x3, x4, x5, x6, x7, x8, some (enc8 t), x10, x11] Q := by
  refine ws_asg (we_lcm (fun p : Int × Int => .tuple [.int p.1, .int p.2]) (s.l.zip t.l) (fun p => .int (p.1 + p.2)) ?_)
  refine wa_rg (wa_cons (we_rd rfl (wa_cons (we_rd rfl (wa_nil (wl_r (zip_ls s t) ⟨rfl, fun p hp => ⟨?_⟩, ?_⟩))))))
  · refine wg_tup rfl (wgs_cons (wg_set rfl (wgs_cons (wg_set rfl (wgs_nil ⟨rfl, wt_yes ⟨rfl, rfl, fun _ => ?_⟩⟩)))))
    unfold e1__law_walk
    repeat (first | with_reducible refine ws_assoc ?_ | with_reducible refine ws_asg ?_ | with_reducible refine ws_rt ?_ | with_reducible refine ws_skip ?_ | refine wg_set rfl ?_ | refine wg_tup rfl ?_ | with_reducible refine wgs_cons ?_ | with_reducible refine wgs_nil ?_ | with_reducible refine ws_par2 ?_ | with_reducible refine ws_par3 ?_ | refine ws_aug rfl ?_ | refine we_rd rfl ?_ | with_reducible refine we_cst ?_ | with_reducible refine we_c2 ?_ | with_reducible refine we_c1 ?_ | with_reducible refine we_c3 ?_ | with_reducible refine we_call ?_ | with_reducible refine wa_nil ?_ | with_reducible refine wa_cons ?_ | with_reducible refine we_tup ?_ | with_reducible refine we_lst ?_ | with_reducible refine we_ifV ?_ | with_reducible refine we_sl ?_ | with_reducible refine wp_no ?_ | with_reducible refine wt_b ?_ | with_reducible refine wt_v ?_ | with_reducible refine wt_not ?_ | with_reducible refine wt_and ?_ | with_reducible refine wt_or ?_ | with_reducible refine wt_yes ?_ | with_reducible refine wb_t ?_ | with_reducible refine wb_f ?_ | with_reducible refine wb_nt ?_ | with_reducible refine wb_nf ?_ | with_reducible refine we_rv ?_ | with_reducible refine we_ch ?_ | with_reducible refine wa_seq ?_ | with_reducible refine wa_it ?_ | with_reducible refine wa_rg ?_ | with_reducible refine wp_of ?_ | with_reducible refine we_and ?_ | with_reducible refine we_or ?_ | with_reducible refine wo_r (addD_int _ _) ?_ | with_reducible refine wo_r (subD_int _ _) ?_ | with_reducible refine wo_r (negD_int _) ?_ | with_reducible refine wo_r (iaddD_int _ _) ?_ | with_reducible refine wo_r (ixL0 _ _ ) ?_ | with_reducible refine wo_r (ixL1 _ _ _ ) ?_ | with_reducible refine wo_r (ixL2 _ _ _ _ ) ?_ | with_reducible refine wo_r (ixL3 _ _ _ _ _ ) ?_ | with_reducible refine wo_r (ixT0 _ _ ) ?_ | with_reducible refine wo_r (ixT1 _ _ _ ) ?_ | with_reducible refine wo_r (ixT2 _ _ _ _ ) ?_ | with_reducible refine wo_r (ixT3 _ _ _ _ _ ) ?_ | refine Exists.intro _ (And.intro rfl ?_) | exact Exists.intro _ rfl | dsimp only [List.set_cons_succ, List.set_cons_zero])
    exact ⟨rfl, rfl⟩
  · exact wg_set rfl h
theorem rows_loop (l : List Sp8) (s : Sp8) {q : CS} {Q : Fl → Prop} (x0 x1 x3 x4 x5 x6 x8 x9 x10 x11 : Option D) (h : ∀ y9 y10 y11, WS q [x0, x1, some (ls8 (l.foldl Sp8.add s)), x3, x4, x5, x6, some (.list (l.map enc8)), x8, y9, y10, y11] Q) : WS (seqS (forS (seqI (rd 7)) (stS 9) b2__law_walk) q) [x0, x1, some (ls8 s), x3, x4, x5, x6, some (.list (l.map enc8)), x8, x9, x10, x11] Q := by
  refine ws_forS enc8 l (fun (st : Sp8) δ => ∃ y9 y10 y11, δ = [x0, x1, some (ls8 st), x3, x4, x5, x6, some (.list (l.map enc8)), x8, y9, y10, y11]) Sp8.add s (wa_seq (we_rd rfl (wl_r rfl ⟨rfl, ⟨x9, x10, x11, rfl⟩, ?_, ?_⟩)))
  · rintro st a _ _ ⟨y9, y10, y11, rfl⟩
    refine wg_set rfl ?_
    try dsimp only [List.set_cons_succ, List.set_cons_zero]
    unfold b2__law_walk
    exact walk_add st a _ _ _ _ _ _ _ _ _ _ (ws_end ⟨_, _, _, rfl⟩)
  · rintro _ ⟨y9, y10, y11, rfl⟩
    exact h y9 y10 y11
theorem lw_eq (t : List Pf) : F__law_walk [encTf t] = some (.tuple [enc8 (dpF t), .int (tsF t % 16)]) := by
  refine fn_of (δ0 := [some (encTf t), none, none, none, none, none, none, none, none, none, none, none]) rfl rfl ?_
  unfold den__law_walk
  have z8 : mulD (.list [.int 0]) (.int 8) = some (ls8 Sp8.z) := by kernel_rfl
  refine ws_asg ⟨kTu, [some (encTf t), none, none, none, none, none, none, none, none, none, none, none], by kernel_rfl, wg_set rfl ?_⟩
  try dsimp only [List.set_cons_succ, List.set_cons_zero]
  refine ws_par2 (we_c2 (we_lst (wa_cons (we_cst (wa_nil (we_cst (wo_r z8 ?_)))))))
  repeat (first | with_reducible refine ws_assoc ?_ | with_reducible refine ws_asg ?_ | with_reducible refine ws_rt ?_ | with_reducible refine ws_skip ?_ | refine wg_set rfl ?_ | refine wg_tup rfl ?_ | with_reducible refine wgs_cons ?_ | with_reducible refine wgs_nil ?_ | with_reducible refine ws_par2 ?_ | with_reducible refine ws_par3 ?_ | refine ws_aug rfl ?_ | refine we_rd rfl ?_ | with_reducible refine we_cst ?_ | with_reducible refine we_c2 ?_ | with_reducible refine we_c1 ?_ | with_reducible refine we_c3 ?_ | with_reducible refine we_call ?_ | with_reducible refine wa_nil ?_ | with_reducible refine wa_cons ?_ | with_reducible refine we_tup ?_ | with_reducible refine we_lst ?_ | with_reducible refine we_ifV ?_ | with_reducible refine we_sl ?_ | with_reducible refine wp_no ?_ | with_reducible refine wt_b ?_ | with_reducible refine wt_v ?_ | with_reducible refine wt_not ?_ | with_reducible refine wt_and ?_ | with_reducible refine wt_or ?_ | with_reducible refine wt_yes ?_ | with_reducible refine wb_t ?_ | with_reducible refine wb_f ?_ | with_reducible refine wb_nt ?_ | with_reducible refine wb_nf ?_ | with_reducible refine we_rv ?_ | with_reducible refine we_ch ?_ | with_reducible refine wa_seq ?_ | with_reducible refine wa_it ?_ | with_reducible refine wa_rg ?_ | with_reducible refine wp_of ?_ | with_reducible refine we_and ?_ | with_reducible refine we_or ?_ | with_reducible refine wo_r (addD_int _ _) ?_ | with_reducible refine wo_r (subD_int _ _) ?_ | with_reducible refine wo_r (negD_int _) ?_ | with_reducible refine wo_r (iaddD_int _ _) ?_ | with_reducible refine wo_r (ixL0 _ _ ) ?_ | with_reducible refine wo_r (ixL1 _ _ _ ) ?_ | with_reducible refine wo_r (ixL2 _ _ _ _ ) ?_ | with_reducible refine wo_r (ixL3 _ _ _ _ _ ) ?_ | with_reducible refine wo_r (ixT0 _ _ ) ?_ | with_reducible refine wo_r (ixT1 _ _ _ ) ?_ | with_reducible refine wo_r (ixT2 _ _ _ _ ) ?_ | with_reducible refine wo_r (ixT3 _ _ _ _ _ ) ?_ | refine Exists.intro _ (And.intro rfl ?_) | exact Exists.intro _ rfl | dsimp only [List.set_cons_succ, List.set_cons_zero])
  refine ws_forS encF t (fun (st : Pof) δ => ∃ x4 x5 x6 x7 x8 x9 x10 x11, δ = [some (encTf t), some kTu, some (ls8 st.1), some (.int st.2), x4, x5, x6, x7, x8, x9, x10, x11]) wst (Sp8.z, 0) (wa_seq (we_rd rfl (wl_r (d := t.map encF) rfl ⟨rfl, ⟨none, none, none, none, none, none, none, none, rfl⟩, ?_, ?_⟩)))
  · rintro ⟨s, h⟩ ⟨k, n⟩ _ hp ⟨x4, x5, x6, x7, x8, x9, x10, x11, rfl⟩
    refine wg_tup (ds := [k.d, .int n]) rfl (wgs_cons (wg_set rfl (wgs_cons (wg_set rfl (wgs_nil ?_)))))
    try dsimp only [List.set_cons_succ, List.set_cons_zero]
    unfold b3__law_walk
    repeat (first | with_reducible refine ws_assoc ?_ | with_reducible refine ws_asg ?_ | with_reducible refine ws_rt ?_ | with_reducible refine ws_skip ?_ | refine wg_set rfl ?_ | refine wg_tup rfl ?_ | with_reducible refine wgs_cons ?_ | with_reducible refine wgs_nil ?_ | with_reducible refine ws_par2 ?_ | with_reducible refine ws_par3 ?_ | refine ws_aug rfl ?_ | refine we_rd rfl ?_ | with_reducible refine we_cst ?_ | with_reducible refine we_c2 ?_ | with_reducible refine we_c1 ?_ | with_reducible refine we_c3 ?_ | with_reducible refine we_call ?_ | with_reducible refine wa_nil ?_ | with_reducible refine wa_cons ?_ | with_reducible refine we_tup ?_ | with_reducible refine we_lst ?_ | with_reducible refine we_ifV ?_ | with_reducible refine we_sl ?_ | with_reducible refine wp_no ?_ | with_reducible refine wt_b ?_ | with_reducible refine wt_v ?_ | with_reducible refine wt_not ?_ | with_reducible refine wt_and ?_ | with_reducible refine wt_or ?_ | with_reducible refine wt_yes ?_ | with_reducible refine wb_t ?_ | with_reducible refine wb_f ?_ | with_reducible refine wb_nt ?_ | with_reducible refine wb_nf ?_ | with_reducible refine we_rv ?_ | with_reducible refine we_ch ?_ | with_reducible refine wa_seq ?_ | with_reducible refine wa_it ?_ | with_reducible refine wa_rg ?_ | with_reducible refine wp_of ?_ | with_reducible refine we_and ?_ | with_reducible refine we_or ?_ | with_reducible refine wo_r (addD_int _ _) ?_ | with_reducible refine wo_r (subD_int _ _) ?_ | with_reducible refine wo_r (negD_int _) ?_ | with_reducible refine wo_r (iaddD_int _ _) ?_ | with_reducible refine wo_r (ixL0 _ _ ) ?_ | with_reducible refine wo_r (ixL1 _ _ _ ) ?_ | with_reducible refine wo_r (ixL2 _ _ _ _ ) ?_ | with_reducible refine wo_r (ixL3 _ _ _ _ _ ) ?_ | with_reducible refine wo_r (ixT0 _ _ ) ?_ | with_reducible refine wo_r (ixT1 _ _ _ ) ?_ | with_reducible refine wo_r (ixT2 _ _ _ _ ) ?_ | with_reducible refine wo_r (ixT3 _ _ _ _ _ ) ?_ | refine Exists.intro _ (And.intro rfl ?_) | exact Exists.intro _ rfl | dsimp only [List.set_cons_succ, List.set_cons_zero])
    try dsimp only [List.set_cons_succ, List.set_cons_zero]
    -- behind the rows
    have last : ∀ (y6 y7 y8 y9 y10 y11 : Option D), WS (seqS (asgS (stS 3) (c2 addD (rd 3) (c2 ixD (rd 1) (rd 4)))) skip) [some (encTf t), some kTu, some (ls8 (wst (s, h) (k, n)).1), some (.int h), some k.d, some (.int n), y6, y7, y8, y9, y10, y11] (On fun δ => ∃ x4 x5 x6 x7 x8 x9 x10 x11, δ = [some (encTf t), some kTu, some (ls8 (wst (s, h) (k, n)).1), some (.int (wst (s, h) (k, n)).2), x4, x5, x6, x7, x8, x9, x10, x11]) := by
      intro y6 y7 y8 y9 y10 y11
      repeat (first | with_reducible refine ws_assoc ?_ | with_reducible refine ws_asg ?_ | with_reducible refine ws_rt ?_ | with_reducible refine ws_skip ?_ | refine wg_set rfl ?_ | refine wg_tup rfl ?_ | with_reducible refine wgs_cons ?_ | with_reducible refine wgs_nil ?_ | with_reducible refine ws_par2 ?_ | with_reducible refine ws_par3 ?_ | refine ws_aug rfl ?_ | refine we_rd rfl ?_ | with_reducible refine we_cst ?_ | with_reducible refine we_c2 ?_ | with_reducible refine we_c1 ?_ | with_reducible refine we_c3 ?_ | with_reducible refine we_call ?_ | with_reducible refine wa_nil ?_ | with_reducible refine wa_cons ?_ | with_reducible refine we_tup ?_ | with_reducible refine we_lst ?_ | with_reducible refine we_ifV ?_ | with_reducible refine we_sl ?_ | with_reducible refine wp_no ?_ | with_reducible refine wt_b ?_ | with_reducible refine wt_v ?_ | with_reducible refine wt_not ?_ | with_reducible refine wt_and ?_ | with_reducible refine wt_or ?_ | with_reducible refine wt_yes ?_ | with_reducible refine wb_t ?_ | with_reducible refine wb_f ?_ | with_reducible refine wb_nt ?_ | with_reducible refine wb_nf ?_ | with_reducible refine we_rv ?_ | with_reducible refine we_ch ?_ | with_reducible refine wa_seq ?_ | with_reducible refine wa_it ?_ | with_reducible refine wa_rg ?_ | with_reducible refine wp_of ?_ | with_reducible refine we_and ?_ | with_reducible refine we_or ?_ | with_reducible refine wo_r (addD_int _ _) ?_ | with_reducible refine wo_r (subD_int _ _) ?_ | with_reducible refine wo_r (negD_int _) ?_ | with_reducible refine wo_r (iaddD_int _ _) ?_ | with_reducible refine wo_r (ixL0 _ _ ) ?_ | with_reducible refine wo_r (ixL1 _ _ _ ) ?_ | with_reducible refine wo_r (ixL2 _ _ _ _ ) ?_ | with_reducible refine wo_r (ixL3 _ _ _ _ _ ) ?_ | with_reducible refine wo_r (ixT0 _ _ ) ?_ | with_reducible refine wo_r (ixT1 _ _ _ ) ?_ | with_reducible refine wo_r (ixT2 _ _ _ _ ) ?_ | with_reducible refine wo_r (ixT3 _ _ _ _ _ ) ?_ | with_reducible refine wo_r (ixTw k) ?_ | refine Exists.intro _ (And.intro rfl ?_) | exact Exists.intro _ rfl | dsimp only [List.set_cons_succ, List.set_cons_zero])
      exact ws_end ⟨some k.d, some (.int n), y6, y7, y8, y9, y10, y11, rfl⟩
    have lt : ∀ j, F__law_turned [.tuple [.int n, .int 0, .int 0, .int 0, .int 0, .int 0, .int 0, .int 0], .int j] = some (enc8 (turn8 j (Sp8.unit n))) := fun j => lt_eq (Sp8.unit n) j
    refine ws_if (wt_b (we_c2 (we_rd rfl (we_cst (wo_r (eqKf k .s) ⟨_, rfl, ?_⟩)))))
    by_cases hs : k = .s
    · subst hs
      refine wb_of (c := true) rfl (wb_t ?_)
      repeat (first | with_reducible refine ws_assoc ?_ | with_reducible refine ws_asg ?_ | with_reducible refine ws_rt ?_ | with_reducible refine ws_skip ?_ | refine wg_set rfl ?_ | refine wg_tup rfl ?_ | with_reducible refine wgs_cons ?_ | with_reducible refine wgs_nil ?_ | with_reducible refine ws_par2 ?_ | with_reducible refine ws_par3 ?_ | refine ws_aug rfl ?_ | refine we_rd rfl ?_ | with_reducible refine we_cst ?_ | with_reducible refine we_c2 ?_ | with_reducible refine we_c1 ?_ | with_reducible refine we_c3 ?_ | with_reducible refine we_call ?_ | with_reducible refine wa_nil ?_ | with_reducible refine wa_cons ?_ | with_reducible refine we_tup ?_ | with_reducible refine we_lst ?_ | with_reducible refine we_ifV ?_ | with_reducible refine we_sl ?_ | with_reducible refine wp_no ?_ | with_reducible refine wt_b ?_ | with_reducible refine wt_v ?_ | with_reducible refine wt_not ?_ | with_reducible refine wt_and ?_ | with_reducible refine wt_or ?_ | with_reducible refine wt_yes ?_ | with_reducible refine wb_t ?_ | with_reducible refine wb_f ?_ | with_reducible refine wb_nt ?_ | with_reducible refine wb_nf ?_ | with_reducible refine we_rv ?_ | with_reducible refine we_ch ?_ | with_reducible refine wa_seq ?_ | with_reducible refine wa_it ?_ | with_reducible refine wa_rg ?_ | with_reducible refine wp_of ?_ | with_reducible refine we_and ?_ | with_reducible refine we_or ?_ | with_reducible refine wo_r (addD_int _ _) ?_ | with_reducible refine wo_r (subD_int _ _) ?_ | with_reducible refine wo_r (negD_int _) ?_ | with_reducible refine wo_r (iaddD_int _ _) ?_ | with_reducible refine wo_r (ixL0 _ _ ) ?_ | with_reducible refine wo_r (ixL1 _ _ _ ) ?_ | with_reducible refine wo_r (ixL2 _ _ _ _ ) ?_ | with_reducible refine wo_r (ixL3 _ _ _ _ _ ) ?_ | with_reducible refine wo_r (ixT0 _ _ ) ?_ | with_reducible refine wo_r (ixT1 _ _ _ ) ?_ | with_reducible refine wo_r (ixT2 _ _ _ _ ) ?_ | with_reducible refine wo_r (ixT3 _ _ _ _ _ ) ?_ | with_reducible refine wf_r (lt h) ?_ | refine Exists.intro _ (And.intro rfl ?_) | exact Exists.intro _ rfl | dsimp only [List.set_cons_succ, List.set_cons_zero])
      refine ws_skip (rows_loop [turn8 h (Sp8.unit n)] s _ _ _ _ _ _ _ _ _ _ fun y9 y10 y11 => ?_)
      have e : [turn8 h (Sp8.unit n)].foldl Sp8.add s = (wst (s, h) (.s, n)).1 := rfl
      rw [e]
      exact last _ _ _ _ _ _
    · refine wb_of (c := false) (decide_eq_false hs) (wb_f ?_)
      have go : ∀ (c : Int), c = (if k.t > 0 then 4 else 12) → WS (seqS (asgS (stS 7) (lstV (aCons (cN F__law_turned (aCons (rd 6) (aCons (c2 addD (rd 3) (rd 8)) aNil))) (aCons (cN F__law_turned (aCons (rd 6) (aCons (c2 addD (c2 addD (c2 addD (rd 3) (c2 ixD (rd 1) (rd 4))) (rd 8)) (cst (.int 8))) aNil))) aNil)))) (seqS skip (seqS (forS (seqI (rd 7)) (stS 9) b2__law_walk) (seqS (asgS (stS 3) (c2 addD (rd 3) (c2 ixD (rd 1) (rd 4)))) skip)))) [some (encTf t), some kTu, some (ls8 s), some (.int h), some k.d, some (.int n), some (.tuple [.int n, .int 0, .int 0, .int 0, .int 0, .int 0, .int 0, .int 0]), x7, some (.int c), x9, x10, x11] (On fun δ => ∃ x4 x5 x6 x7 x8 x9 x10 x11, δ = [some (encTf t), some kTu, some (ls8 (wst (s, h) (k, n)).1), some (.int (wst (s, h) (k, n)).2), x4, x5, x6, x7, x8, x9, x10, x11]) := by
        intro c hc
        repeat (first | with_reducible refine ws_assoc ?_ | with_reducible refine ws_asg ?_ | with_reducible refine ws_rt ?_ | with_reducible refine ws_skip ?_ | refine wg_set rfl ?_ | refine wg_tup rfl ?_ | with_reducible refine wgs_cons ?_ | with_reducible refine wgs_nil ?_ | with_reducible refine ws_par2 ?_ | with_reducible refine ws_par3 ?_ | refine ws_aug rfl ?_ | refine we_rd rfl ?_ | with_reducible refine we_cst ?_ | with_reducible refine we_c2 ?_ | with_reducible refine we_c1 ?_ | with_reducible refine we_c3 ?_ | with_reducible refine we_call ?_ | with_reducible refine wa_nil ?_ | with_reducible refine wa_cons ?_ | with_reducible refine we_tup ?_ | with_reducible refine we_lst ?_ | with_reducible refine we_ifV ?_ | with_reducible refine we_sl ?_ | with_reducible refine wp_no ?_ | with_reducible refine wt_b ?_ | with_reducible refine wt_v ?_ | with_reducible refine wt_not ?_ | with_reducible refine wt_and ?_ | with_reducible refine wt_or ?_ | with_reducible refine wt_yes ?_ | with_reducible refine wb_t ?_ | with_reducible refine wb_f ?_ | with_reducible refine wb_nt ?_ | with_reducible refine wb_nf ?_ | with_reducible refine we_rv ?_ | with_reducible refine we_ch ?_ | with_reducible refine wa_seq ?_ | with_reducible refine wa_it ?_ | with_reducible refine wa_rg ?_ | with_reducible refine wp_of ?_ | with_reducible refine we_and ?_ | with_reducible refine we_or ?_ | with_reducible refine wo_r (addD_int _ _) ?_ | with_reducible refine wo_r (subD_int _ _) ?_ | with_reducible refine wo_r (negD_int _) ?_ | with_reducible refine wo_r (iaddD_int _ _) ?_ | with_reducible refine wo_r (ixL0 _ _ ) ?_ | with_reducible refine wo_r (ixL1 _ _ _ ) ?_ | with_reducible refine wo_r (ixL2 _ _ _ _ ) ?_ | with_reducible refine wo_r (ixL3 _ _ _ _ _ ) ?_ | with_reducible refine wo_r (ixT0 _ _ ) ?_ | with_reducible refine wo_r (ixT1 _ _ _ ) ?_ | with_reducible refine wo_r (ixT2 _ _ _ _ ) ?_ | with_reducible refine wo_r (ixT3 _ _ _ _ _ ) ?_ | with_reducible refine wf_r (lt (h + c)) ?_ | with_reducible refine wo_r (ixTw k) ?_ | with_reducible refine wf_r (lt (h + k.t + c + 8)) ?_ | refine Exists.intro _ (And.intro rfl ?_) | exact Exists.intro _ rfl | dsimp only [List.set_cons_succ, List.set_cons_zero])
        refine ws_skip (rows_loop [turn8 (h + c) (Sp8.unit n), turn8 (h + k.t + c + 8) (Sp8.unit n)] s _ _ _ _ _ _ _ _ _ _ fun y9 y10 y11 => ?_)
        have e : [turn8 (h + c) (Sp8.unit n), turn8 (h + k.t + c + 8) (Sp8.unit n)].foldl Sp8.add s = (wst (s, h) (k, n)).1 := by
          show Sp8.add (Sp8.add s (turn8 (h + c) (Sp8.unit n))) (turn8 (h + k.t + c + 8) (Sp8.unit n)) = Sp8.add s (stepF (k, n) h)
          unfold stepF
          rw [if_neg hs, unit_neg, Sp8.add_assoc, hc]
        rw [e]
        exact last _ _ _ _ _ _
      refine ws_assoc (ws_asg (we_ifV (wt_b (we_c2 (we_c2 (we_rd rfl (we_rd rfl (wo_r (ixTw k) ?_))))))))
      refine we_cst (wo_r (gtD_int _ _) ⟨_, rfl, ?_⟩)
      by_cases h0 : k.t > 0
      · refine wb_of (c := true) (decide_eq_true h0) (wb_t (we_cst (wg_set rfl ?_)))
        exact ws_assoc (go 4 (by rw [if_pos h0]))
      · refine wb_of (c := false) (decide_eq_false h0) (wb_f (we_cst (wg_set rfl ?_)))
        exact ws_assoc (go 12 (by rw [if_neg h0]))
  · rintro _ ⟨x4, x5, x6, x7, x8, x9, x10, x11, rfl⟩
    have e := wstF_eq t (Sp8.z, 0)
    unfold wstF at e
    rw [e]
    simp only [Sp8.z_add, turn8_0, Int.zero_add]
    have tu : ∀ u : Sp8, tupleD [ls8 u] = some (enc8 u) := fun u => rfl
    repeat (first | with_reducible refine ws_assoc ?_ | with_reducible refine ws_asg ?_ | with_reducible refine ws_rt ?_ | with_reducible refine ws_skip ?_ | refine wg_set rfl ?_ | refine wg_tup rfl ?_ | with_reducible refine wgs_cons ?_ | with_reducible refine wgs_nil ?_ | with_reducible refine ws_par2 ?_ | with_reducible refine ws_par3 ?_ | refine ws_aug rfl ?_ | refine we_rd rfl ?_ | with_reducible refine we_cst ?_ | with_reducible refine we_c2 ?_ | with_reducible refine we_c1 ?_ | with_reducible refine we_c3 ?_ | with_reducible refine we_call ?_ | with_reducible refine wa_nil ?_ | with_reducible refine wa_cons ?_ | with_reducible refine we_tup ?_ | with_reducible refine we_lst ?_ | with_reducible refine we_ifV ?_ | with_reducible refine we_sl ?_ | with_reducible refine wp_no ?_ | with_reducible refine wt_b ?_ | with_reducible refine wt_v ?_ | with_reducible refine wt_not ?_ | with_reducible refine wt_and ?_ | with_reducible refine wt_or ?_ | with_reducible refine wt_yes ?_ | with_reducible refine wb_t ?_ | with_reducible refine wb_f ?_ | with_reducible refine wb_nt ?_ | with_reducible refine wb_nf ?_ | with_reducible refine we_rv ?_ | with_reducible refine we_ch ?_ | with_reducible refine wa_seq ?_ | with_reducible refine wa_it ?_ | with_reducible refine wa_rg ?_ | with_reducible refine wp_of ?_ | with_reducible refine we_and ?_ | with_reducible refine we_or ?_ | with_reducible refine wo_r (addD_int _ _) ?_ | with_reducible refine wo_r (subD_int _ _) ?_ | with_reducible refine wo_r (negD_int _) ?_ | with_reducible refine wo_r (iaddD_int _ _) ?_ | with_reducible refine wo_r (ixL0 _ _ ) ?_ | with_reducible refine wo_r (ixL1 _ _ _ ) ?_ | with_reducible refine wo_r (ixL2 _ _ _ _ ) ?_ | with_reducible refine wo_r (ixL3 _ _ _ _ _ ) ?_ | with_reducible refine wo_r (ixT0 _ _ ) ?_ | with_reducible refine wo_r (ixT1 _ _ _ ) ?_ | with_reducible refine wo_r (ixT2 _ _ _ _ ) ?_ | with_reducible refine wo_r (ixT3 _ _ _ _ _ ) ?_ | with_reducible refine wf_r (tu _) ?_ | refine Exists.intro _ (And.intro rfl ?_) | exact Exists.intro _ rfl | dsimp only [List.set_cons_succ, List.set_cons_zero])
    refine wo_r (fdivD_pos (by decide) (by decide)) ?_
    repeat (first | with_reducible refine ws_assoc ?_ | with_reducible refine ws_asg ?_ | with_reducible refine ws_rt ?_ | with_reducible refine ws_skip ?_ | refine wg_set rfl ?_ | refine wg_tup rfl ?_ | with_reducible refine wgs_cons ?_ | with_reducible refine wgs_nil ?_ | with_reducible refine ws_par2 ?_ | with_reducible refine ws_par3 ?_ | refine ws_aug rfl ?_ | refine we_rd rfl ?_ | with_reducible refine we_cst ?_ | with_reducible refine we_c2 ?_ | with_reducible refine we_c1 ?_ | with_reducible refine we_c3 ?_ | with_reducible refine we_call ?_ | with_reducible refine wa_nil ?_ | with_reducible refine wa_cons ?_ | with_reducible refine we_tup ?_ | with_reducible refine we_lst ?_ | with_reducible refine we_ifV ?_ | with_reducible refine we_sl ?_ | with_reducible refine wp_no ?_ | with_reducible refine wt_b ?_ | with_reducible refine wt_v ?_ | with_reducible refine wt_not ?_ | with_reducible refine wt_and ?_ | with_reducible refine wt_or ?_ | with_reducible refine wt_yes ?_ | with_reducible refine wb_t ?_ | with_reducible refine wb_f ?_ | with_reducible refine wb_nt ?_ | with_reducible refine wb_nf ?_ | with_reducible refine we_rv ?_ | with_reducible refine we_ch ?_ | with_reducible refine wa_seq ?_ | with_reducible refine wa_it ?_ | with_reducible refine wa_rg ?_ | with_reducible refine wp_of ?_ | with_reducible refine we_and ?_ | with_reducible refine we_or ?_ | with_reducible refine wo_r (addD_int _ _) ?_ | with_reducible refine wo_r (subD_int _ _) ?_ | with_reducible refine wo_r (negD_int _) ?_ | with_reducible refine wo_r (iaddD_int _ _) ?_ | with_reducible refine wo_r (ixL0 _ _ ) ?_ | with_reducible refine wo_r (ixL1 _ _ _ ) ?_ | with_reducible refine wo_r (ixL2 _ _ _ _ ) ?_ | with_reducible refine wo_r (ixL3 _ _ _ _ _ ) ?_ | with_reducible refine wo_r (ixT0 _ _ ) ?_ | with_reducible refine wo_r (ixT1 _ _ _ ) ?_ | with_reducible refine wo_r (ixT2 _ _ _ _ ) ?_ | with_reducible refine wo_r (ixT3 _ _ _ _ _ ) ?_ | refine Exists.intro _ (And.intro rfl ?_) | exact Exists.intro _ rfl | dsimp only [List.set_cons_succ, List.set_cons_zero])
    refine wo_r (mulD_int (.inr (by decide))) ?_
    repeat (first | with_reducible refine ws_assoc ?_ | with_reducible refine ws_asg ?_ | with_reducible refine ws_rt ?_ | with_reducible refine ws_skip ?_ | refine wg_set rfl ?_ | refine wg_tup rfl ?_ | with_reducible refine wgs_cons ?_ | with_reducible refine wgs_nil ?_ | with_reducible refine ws_par2 ?_ | with_reducible refine ws_par3 ?_ | refine ws_aug rfl ?_ | refine we_rd rfl ?_ | with_reducible refine we_cst ?_ | with_reducible refine we_c2 ?_ | with_reducible refine we_c1 ?_ | with_reducible refine we_c3 ?_ | with_reducible refine we_call ?_ | with_reducible refine wa_nil ?_ | with_reducible refine wa_cons ?_ | with_reducible refine we_tup ?_ | with_reducible refine we_lst ?_ | with_reducible refine we_ifV ?_ | with_reducible refine we_sl ?_ | with_reducible refine wp_no ?_ | with_reducible refine wt_b ?_ | with_reducible refine wt_v ?_ | with_reducible refine wt_not ?_ | with_reducible refine wt_and ?_ | with_reducible refine wt_or ?_ | with_reducible refine wt_yes ?_ | with_reducible refine wb_t ?_ | with_reducible refine wb_f ?_ | with_reducible refine wb_nt ?_ | with_reducible refine wb_nf ?_ | with_reducible refine we_rv ?_ | with_reducible refine we_ch ?_ | with_reducible refine wa_seq ?_ | with_reducible refine wa_it ?_ | with_reducible refine wa_rg ?_ | with_reducible refine wp_of ?_ | with_reducible refine we_and ?_ | with_reducible refine we_or ?_ | with_reducible refine wo_r (addD_int _ _) ?_ | with_reducible refine wo_r (subD_int _ _) ?_ | with_reducible refine wo_r (negD_int _) ?_ | with_reducible refine wo_r (iaddD_int _ _) ?_ | with_reducible refine wo_r (ixL0 _ _ ) ?_ | with_reducible refine wo_r (ixL1 _ _ _ ) ?_ | with_reducible refine wo_r (ixL2 _ _ _ _ ) ?_ | with_reducible refine wo_r (ixL3 _ _ _ _ _ ) ?_ | with_reducible refine wo_r (ixT0 _ _ ) ?_ | with_reducible refine wo_r (ixT1 _ _ _ ) ?_ | with_reducible refine wo_r (ixT2 _ _ _ _ ) ?_ | with_reducible refine wo_r (ixT3 _ _ _ _ _ ) ?_ | refine Exists.intro _ (And.intro rfl ?_) | exact Exists.intro _ rfl | dsimp only [List.set_cons_succ, List.set_cons_zero])
    rw [show tsF t - tsF t / 16 * 16 = tsF t % 16 by omega]
    exact ⟨_, rfl⟩
def closB (t : List Pf) : Bool := decide (t ≠ []) && decide (dpF t = Sp8.z ∧ tsF t % 16 = 0)
theorem gd_K (n : Nat) (k : Kf) : Gd n k.d := by cases k <;> exact .str (by decide +kernel)
theorem gd_Pf (n : Nat) (p : Pf) : Gd (n + 1) (encF p) := .t2 (gd_K n _) (.int _)
theorem gd_Tf (n : Nat) (t : List Pf) (h : t.length ≤ 16777216) : Gd (n + 2) (encTf t) := .tmap (fun p _ => gd_Pf n p) h
theorem gd_8 (n : Nat) (s : Sp8) : Gd (n + 1) (enc8 s) := .ints (l := s.l) (by show 8 ≤ _; decide)
theorem enc8_inj {s t : Sp8} (h : enc8 s = enc8 t) : s = t := by
  have e := tints_inj h
  simp only [Sp8.l, List.cons.injEq] at e
  obtain ⟨e1, e2, e3, e4, e5, e6, e7, e8, _⟩ := e
  exact Sp8.ext' e1 e2 e3 e4 e5 e6 e7 e8
theorem neT (t : List Pf) (h : t.length ≤ 16777216) : neD (encTf t) (.tuple []) = some (.bool (decide (t ≠ []))) := by
  rw [neD_gd ((gd_Tf 0 t h).up (by omega)) (Gd.nil (n := 59)), dq_of (p := t = [])]
  · by_cases e : t = []
    · rw [decide_eq_true e, decide_eq_false (fun z => z e)]; rfl
    · rw [decide_eq_false e, decide_eq_true e]; rfl
  · cases t with
    | nil => exact ⟨fun _ => rfl, fun _ => rfl⟩
    | cons p t => exact ⟨fun h => by simp [encTf] at h, fun h => by cases h⟩
def encQ (q : Pof) : D := .tuple [enc8 q.1, .int q.2]
theorem eqQ (p q : Pof) : eqD (encQ p) (encQ q) = some (.bool (decide (p = q))) := by
  refine (eqD_gd (.t2 (gd_8 _ _) (.int _)) (.t2 (gd_8 _ _) (.int _))).trans ?_
  rw [dq_of (p := p = q)]
  constructor
  · intro h
    simp only [encQ, PyData.tuple.injEq, List.cons.injEq, PyData.int.injEq, and_true] at h
    exact Prod.ext (enc8_inj h.1) h.2
  · exact congrArg encQ
theorem dfc_eq (t : List Pf) (h : t.length ≤ 16777216) : F_does_fine_close [encTf t] = some (.bool (closB t)) := by
  refine fn_of (δ0 := [some (encTf t)]) rfl rfl ?_
  unfold den_does_fine_close
  have e := fp_eq (Sp8.z, 0) t
  rw [goF_eq t _ _ (by decide) (by decide), Sp8.z_add, turn8_0, Int.zero_add] at e
  have e' : F_fine_pose_after [.tuple [k_FINE_START, .int 0], encTf t] = some (encQ (dpF t, tsF t % 16)) := e
  have q := eqQ (dpF t, tsF t % 16) (Sp8.z, 0)
  have q' : eqD (encQ (dpF t, tsF t % 16)) (.tuple [k_FINE_START, .int 0]) = some (.bool (decide ((dpF t, tsF t % 16) = ((Sp8.z, 0) : Pof)))) := q
  refine ws_rt (we_and (we_c2 (we_rd rfl (we_tup (wa_nil (wo_r (neT t h) ⟨_, rfl, ?_⟩))))))
  unfold closB
  by_cases h0 : t = []
  · refine wb_of (c := false) (decide_eq_false (fun z => z h0)) (wb_f ⟨[some (encTf t)], ?_⟩)
    rw [decide_eq_false (fun z => z h0)]
    rfl
  · refine wb_of (c := true) (decide_eq_true h0) (wb_t ?_)
    repeat (first | with_reducible refine ws_assoc ?_ | with_reducible refine ws_asg ?_ | with_reducible refine ws_rt ?_ | with_reducible refine ws_skip ?_ | refine wg_set rfl ?_ | refine wg_tup rfl ?_ | with_reducible refine wgs_cons ?_ | with_reducible refine wgs_nil ?_ | with_reducible refine ws_par2 ?_ | with_reducible refine ws_par3 ?_ | refine ws_aug rfl ?_ | refine we_rd rfl ?_ | with_reducible refine we_cst ?_ | with_reducible refine we_c2 ?_ | with_reducible refine we_c1 ?_ | with_reducible refine we_c3 ?_ | with_reducible refine we_call ?_ | with_reducible refine wa_nil ?_ | with_reducible refine wa_cons ?_ | with_reducible refine we_tup ?_ | with_reducible refine we_lst ?_ | with_reducible refine we_ifV ?_ | with_reducible refine we_sl ?_ | with_reducible refine wp_no ?_ | with_reducible refine wt_b ?_ | with_reducible refine wt_v ?_ | with_reducible refine wt_not ?_ | with_reducible refine wt_and ?_ | with_reducible refine wt_or ?_ | with_reducible refine wt_yes ?_ | with_reducible refine wb_t ?_ | with_reducible refine wb_f ?_ | with_reducible refine wb_nt ?_ | with_reducible refine wb_nf ?_ | with_reducible refine we_rv ?_ | with_reducible refine we_ch ?_ | with_reducible refine wa_seq ?_ | with_reducible refine wa_it ?_ | with_reducible refine wa_rg ?_ | with_reducible refine wp_of ?_ | with_reducible refine we_and ?_ | with_reducible refine we_or ?_ | with_reducible refine wo_r (addD_int _ _) ?_ | with_reducible refine wo_r (subD_int _ _) ?_ | with_reducible refine wo_r (negD_int _) ?_ | with_reducible refine wo_r (iaddD_int _ _) ?_ | with_reducible refine wo_r (ixL0 _ _ ) ?_ | with_reducible refine wo_r (ixL1 _ _ _ ) ?_ | with_reducible refine wo_r (ixL2 _ _ _ _ ) ?_ | with_reducible refine wo_r (ixL3 _ _ _ _ _ ) ?_ | with_reducible refine wo_r (ixT0 _ _ ) ?_ | with_reducible refine wo_r (ixT1 _ _ _ ) ?_ | with_reducible refine wo_r (ixT2 _ _ _ _ ) ?_ | with_reducible refine wo_r (ixT3 _ _ _ _ _ ) ?_ | with_reducible refine wf_r (e') ?_ | with_reducible refine wo_r (q') ?_ | refine Exists.intro _ (And.intro rfl ?_) | exact Exists.intro _ rfl | dsimp only [List.set_cons_succ, List.set_cons_zero])
    refine ⟨[some (encTf t)], ?_⟩
    rw [decide_eq_true h0, Bool.true_and]
    congr 3
    refine propext ⟨fun h => ⟨(Prod.ext_iff.mp h).1, (Prod.ext_iff.mp h).2⟩, fun h => Prod.ext h.1 h.2⟩
end Lw
namespace Lb
open PySem hiding Env
open Dn
variable [Wd]

def fsp (s : Spot) : Sp8 := ⟨s.1, 0, s.2.1, 0, s.2.2.1, 0, s.2.2.2, 0⟩
theorem fsp_rot (s : Spot) : fsp (rot s) = Sp8.rot (Sp8.rot (fsp s)) := rfl
theorem fsp_rotN : ∀ (n : Nat) (s : Spot), fsp (rotN n s) = Sp8.rotN (2 * n) (fsp s)
  | 0, _ => rfl
  | n + 1, s => by
    show fsp (rotN n (rot s)) = Sp8.rotN (2 * n + 2) (fsp s)
    rw [fsp_rotN n, fsp_rot]
    rfl
theorem fsp_turn (k : Int) (s : Spot) : fsp (turn k s) = turn8 (2 * k) (fsp s) := by
  unfold turn turn8
  rw [fsp_rotN]
  congr 1
  omega
theorem fsp_add (s t : Spot) : fsp (sadd s t) = Sp8.add (fsp s) (fsp t) := rfl
theorem fsp_inj {s t : Spot} (h : fsp s = fsp t) : s = t := by
  obtain ⟨a, b, c, d⟩ := s
  obtain ⟨a', b', c', d'⟩ := t
  simp only [fsp, Sp8.mk.injEq] at h
  obtain ⟨h1, _, h2, _, h3, _, h4, _⟩ := h
  rw [h1, h2, h3, h4]
def kf : Kd → Kf | .L => .l | .R => .r | .S => .s
def pf (p : Pc) : Pf := (kf p.1, p.2)
theorem encF_pf (p : Pc) : encF (pf p) = encP p := by
  obtain ⟨k, n⟩ := p
  cases k <;> rfl
theorem kf_t (k : Kd) : (kf k).t = 2 * k.t := by cases k <;> rfl
theorem fsp_d1 (p : Pc) : fsp (d1 p) = stepF (pf p) 0 := by
  obtain ⟨k, n⟩ := p
  cases k with
  | S => rfl
  | L =>
    apply Sp8.ext' <;> (simp [fsp, d1, step, ssub, turn, rotN, rot, stepF, turn8, Sp8.rotN, Sp8.rot, Sp8.add, Sp8.unit, pf, kf, Kf.t]; try omega)
  | R =>
    apply Sp8.ext' <;> (simp [fsp, d1, step, ssub, turn, rotN, rot, stepF, turn8, Sp8.rotN, Sp8.rot, Sp8.add, Sp8.unit, pf, kf, Kf.t]; try omega)
theorem ts_pf : ∀ t : List Pc, tsF (t.map pf) = 2 * tsum t
  | [] => rfl
  | p :: t => by
    show (kf p.1).t + tsF (t.map pf) = 2 * (p.1.t + tsum t)
    rw [ts_pf t, kf_t]
    omega
theorem dp_pf : ∀ t : List Pc, dpF (t.map pf) = fsp (disp t)
  | [] => rfl
  | p :: t => by
    show Sp8.add (stepF (pf p) 0) (turn8 (kf p.1).t (dpF (t.map pf))) = fsp (sadd (d1 p) (turn p.1.t (disp t)))
    rw [dp_pf t, fsp_add, fsp_turn, fsp_d1, kf_t]
theorem clF_pf (t : List Pc) : ClF (t.map pf) ↔ go o0 t = o0 := by
  rw [go_closed]
  unfold ClF
  rw [dp_pf, ts_pf]
  constructor
  · rintro ⟨h1, h2⟩
    exact ⟨fsp_inj (h1.trans rfl), by omega⟩
  · rintro ⟨h1, h2⟩
    exact ⟨by rw [h1]; rfl, by omega⟩
def mk : Kf → Kf | .hl => .hr | .hr => .hl | .l => .r | .r => .l | .s => .s
def mirF (p : Pf) : Pf := (mk p.1, p.2)
def cj (s : Sp8) : Sp8 := ⟨s.a, -s.h, -s.g, -s.f, -s.e, -s.d, -s.c, -s.b⟩
theorem cj_add (s t : Sp8) : cj (Sp8.add s t) = Sp8.add (cj s) (cj t) := Sp8.ext' rfl Int.neg_add Int.neg_add Int.neg_add Int.neg_add Int.neg_add Int.neg_add Int.neg_add
theorem rot_cj (s : Sp8) : Sp8.rot (cj (Sp8.rot s)) = cj s := Sp8.ext' (Int.neg_neg _) rfl rfl rfl rfl rfl rfl rfl
theorem rotN_cj : ∀ (n : Nat) (s : Sp8), Sp8.rotN n (cj (Sp8.rotN n s)) = cj s
  | 0, _ => rfl
  | n + 1, s => by
    show Sp8.rotN n (Sp8.rot (cj (Sp8.rotN n (Sp8.rot s)))) = _
    rw [Sp8.rotN_rot n s, rot_cj, rotN_cj n]
theorem cj_turn (k : Int) (s : Sp8) : cj (turn8 k s) = turn8 (-k) (cj s) := by
  have h : turn8 k (cj (turn8 k s)) = cj s := rotN_cj _ _
  rw [← h, turn8_turn, show -k + k = 0 by omega, turn8_0]
theorem mk_t (k : Kf) : (mk k).t = -k.t := by cases k <;> rfl
theorem step_cj (p : Pf) : stepF (mirF p) 0 = cj (stepF p 0) := by
  obtain ⟨k, n⟩ := p
  cases k
  all_goals
    apply Sp8.ext' <;> (simp [cj, mirF, mk, stepF, turn8, Sp8.rotN, Sp8.rot, Sp8.add, Sp8.unit, Kf.t]; try omega)
theorem ts_mir : ∀ t : List Pf, tsF (t.map mirF) = -tsF t
  | [] => rfl
  | p :: t => by
    show (mk p.1).t + tsF (t.map mirF) = -(p.1.t + tsF t)
    rw [ts_mir t, mk_t]
    omega
theorem dp_mir : ∀ t : List Pf, dpF (t.map mirF) = cj (dpF t)
  | [] => rfl
  | p :: t => by
    show Sp8.add (stepF (mirF p) 0) (turn8 (mk p.1).t (dpF (t.map mirF))) = cj (Sp8.add (stepF p 0) (turn8 p.1.t (dpF t)))
    rw [dp_mir t, cj_add, cj_turn, mk_t, step_cj]
theorem step_bk (p : Pf) : stepF (mirF p) 0 = turn8 (-p.1.t) (stepF p 0) := by
  obtain ⟨k, n⟩ := p
  cases k
  all_goals
    apply Sp8.ext' <;> (simp [mirF, mk, stepF, turn8, Sp8.rotN, Sp8.rot, Sp8.add, Sp8.unit, Kf.t]; try omega)
def bkF (t : List Pf) : List Pf := t.reverse.map mirF
theorem bk_cons (p : Pf) (t : List Pf) : bkF (p :: t) = bkF t ++ [mirF p] := by
  unfold bkF
  rw [List.reverse_cons, List.map_append]
  rfl
theorem ts_bk : ∀ t : List Pf, tsF (bkF t) = -tsF t
  | [] => rfl
  | p :: t => by
    rw [bk_cons, tsF_append, ts_bk t]
    show -tsF t + ((mk p.1).t + 0) = -(p.1.t + tsF t)
    rw [mk_t]
    omega
theorem dp_one (p : Pf) : dpF [p] = stepF p 0 := by
  show Sp8.add (stepF p 0) (turn8 p.1.t Sp8.z) = _
  rw [turn8_z, Sp8.add_z]
theorem dp_bk : ∀ t : List Pf, dpF (bkF t) = turn8 (-tsF t) (dpF t)
  | [] => rfl
  | p :: t => by
    rw [bk_cons, dpF_append, dp_bk t, ts_bk, dp_one, step_bk, turn8_turn]
    show _ = turn8 (-(p.1.t + tsF t)) (Sp8.add (stepF p 0) (turn8 p.1.t (dpF t)))
    rw [turn8_add, turn8_turn, show -(p.1.t + tsF t) + p.1.t = -tsF t by omega, show -tsF t + -p.1.t = -(p.1.t + tsF t) by omega, Sp8.add_comm]
/-- from the end back home -/
theorem home (t : List Pf) : Sp8.add (dpF t) (turn8 (tsF t + 8) (dpF (bkF t))) = Sp8.z := by
  rw [dp_bk, turn8_turn, show tsF t + 8 + -tsF t = 8 by omega, turn8_8, Sp8.add_neg]
def hv (p : Pf) : List Pf := match p.1 with
  | .l => [(.hl, p.2), (.hl, p.2)]
  | .r => [(.hr, p.2), (.hr, p.2)]
  | _ => [p]
theorem ts_hv (p : Pf) : tsF (hv p) = p.1.t := by
  obtain ⟨k, n⟩ := p
  cases k <;> rfl
theorem dp_hv (p : Pf) : dpF (hv p) = stepF p 0 := by
  obtain ⟨k, n⟩ := p
  cases k
  case hl => exact dp_one _
  case hr => exact dp_one _
  case s => exact dp_one _
  all_goals
    apply Sp8.ext' <;> (simp [hv, dpF, stepF, turn8, Sp8.rotN, Sp8.rot, Sp8.add, Sp8.unit, Sp8.z, Kf.t]; try omega)
def hvT (t : List Pf) : List Pf := t.flatMap hv
theorem ts_hvT : ∀ t : List Pf, tsF (hvT t) = tsF t
  | [] => rfl
  | p :: t => by
    show tsF (hv p ++ hvT t) = p.1.t + tsF t
    rw [tsF_append, ts_hv, ts_hvT t]
theorem dp_hvT : ∀ t : List Pf, dpF (hvT t) = dpF t
  | [] => rfl
  | p :: t => by
    show dpF (hv p ++ hvT t) = Sp8.add (stepF p 0) (turn8 p.1.t (dpF t))
    rw [dpF_append, ts_hv, dp_hv, dp_hvT t]
theorem hv_half (p : Pf) : ∀ q ∈ hv p, q.1 ≠ .l ∧ q.1 ≠ .r := by
  obtain ⟨k, n⟩ := p
  cases k <;> (intro q hq; simp [hv] at hq; subst hq; constructor <;> (intro z; cases z))
def Sd (c n : Int) (p : Pf) : Prop := p.2 = n ∧ p.1 ≠ .s ∧ (if p.1.t > 0 then (4 : Int) else 12) = c
theorem dp_arc {c n : Int} : ∀ t : List Pf, (∀ p ∈ t, Sd c n p) → dpF t = Sp8.add (turn8 c (Sp8.unit n)) (turn8 (c + tsF t) (Sp8.unit (-n)))
  | [], _ => by
    show Sp8.z = Sp8.add (turn8 c (Sp8.unit n)) (turn8 (c + 0) (Sp8.unit (-n)))
    rw [Int.add_zero, ← turn8_add]
    have : Sp8.add (Sp8.unit n) (Sp8.unit (-n)) = Sp8.z := Sp8.add_neg (Sp8.unit n)
    rw [this, turn8_z]
  | p :: t, h => by
    obtain ⟨h1, h2, h3⟩ := h p List.mem_cons_self
    have e : stepF p 0 = Sp8.add (turn8 c (Sp8.unit n)) (turn8 (p.1.t + c) (Sp8.unit (-n))) := by
      unfold stepF
      rw [if_neg h2, h3, h1, Int.zero_add, Int.zero_add]
    have z : Sp8.add (turn8 (p.1.t + c) (Sp8.unit (-n))) (turn8 (p.1.t + c) (Sp8.unit n)) = Sp8.z := by
      rw [← turn8_add]
      have : Sp8.add (Sp8.unit (-n)) (Sp8.unit n) = Sp8.z := by rw [Sp8.add_comm]; exact Sp8.add_neg (Sp8.unit n)
      rw [this, turn8_z]
    show Sp8.add (stepF p 0) (turn8 p.1.t (dpF t)) = Sp8.add _ (turn8 (c + (p.1.t + tsF t)) _)
    rw [dp_arc t fun q hq => h q (List.mem_cons_of_mem _ hq), turn8_add, turn8_turn, turn8_turn, e, Sp8.add_assoc, ← Sp8.add_assoc (turn8 (p.1.t + c) (Sp8.unit (-n))), z, Sp8.z_add, show p.1.t + (c + tsF t) = c + (p.1.t + tsF t) by omega]
theorem cl_round {c n : Int} {t : List Pf} (h : ∀ p ∈ t, Sd c n p) (hs : tsF t % 16 = 0) : ClF t := by
  refine ⟨?_, hs⟩
  rw [dp_arc t h, turn8_congr (k := c + tsF t) (j := c) (by omega), ← turn8_add]
  have : Sp8.add (Sp8.unit n) (Sp8.unit (-n)) = Sp8.z := Sp8.add_neg (Sp8.unit n)
  rw [this, turn8_z]
theorem op_round {t : List Pf} (h : ClF t) : ¬ ClF (t ++ [(.s, 1)]) := by
  rintro ⟨z, _⟩
  rw [dpF_append, h.1, Sp8.z_add, turn8_congr (j := 0) h.2, turn8_0, dp_one] at z
  exact absurd z (by decide)
end Lb
namespace Lb
open PySem hiding Env
open Dn
variable [Wd]

section
variable {α : Type} [DecidableEq α] {enc : α → D}
end
end Lb
namespace Lb
open PySem hiding Env
open Dn
variable [Wd]
section
variable {α : Type} [DecidableEq α] {enc : α → D}
end
end Lb
namespace Lb
open PySem Dn
noncomputable section

end
end Lb
namespace Lb
open PySem hiding Env
open Dn
variable [Wd]

section
variable (T : List (List Int)) (s : List Nat)
def blk (k : Nat) : Int := (T.getD k []).getD (s.getD k 0) 0
end
section
variable {T : List (List Int)} {s : List Nat}
end
end Lb
namespace Lb
open PySem hiding Env
open Dn
variable [Wd]
section
variable {α : Type} {enc : α → D} {P : α → Prop}
end
end Lb
namespace Lb
open PySem hiding Env
open Dn
variable [Wd]

end Lb
namespace Lb
open PySem hiding Env
open Dn
variable [Wd]

end Lb
namespace Lb
open PySem hiding Env
open Dn
variable [Wd]

end Lb
namespace Lw
open PySem hiding Env Run
open Dn Lb
variable [Wd]

theorem imF (p : Pf) : immut (encF p) = true := by
  obtain ⟨k, n⟩ := p
  cases k <;> rfl
theorem tup_F (t : List Pf) : tupleD [.list (t.map encF)] = some (encTf t) := tupleD_list (imm_map encF imF t)
theorem in_LR (k : Kf) : inD k.d (.tuple [.str "left", .str "right"]) = some (.bool (decide (k = .l ∨ k = .r))) := by cases k <;> kernel_rfl
theorem hv_no {p : Pf} (h : ¬ (p.1 = .l ∨ p.1 = .r)) : hv p = [p] := by
  obtain ⟨k, n⟩ := p
  cases k <;> first | rfl | exact absurd (Or.inl rfl) h | exact absurd (Or.inr rfl) h
theorem hvT_len : ∀ t : List Pf, (hvT t).length ≤ 2 * t.length
  | [] => Nat.le_refl _
  | p :: t => by
    have h := hvT_len t
    have h1 : (hv p).length ≤ 2 := by
      obtain ⟨k, n⟩ := p
      cases k <;> first | exact Nat.le_refl 2 | exact Nat.le_succ 1
    show (hv p ++ hvT t).length ≤ 2 * (t.length + 1)
    rw [List.length_append]
    omega
theorem hvT_snoc (t : List Pf) (p : Pf) : hvT (t ++ [p]) = hvT t ++ hv p := by
  unfold hvT
  rw [List.flatMap_append, List.flatMap_singleton]
theorem halved_eq (t : List Pf) (hl : t.length ≤ 1000) : F_halved [encTf t] = some (encTf (hvT t)) := by
  refine fn_of (δ0 := [some (encTf t), none, none, none]) rfl rfl ?_
  unfold den_halved
  refine ws_asg (we_lst (wa_nil (wg_set rfl ?_)))
  try dsimp only [List.set_cons_succ, List.set_cons_zero]
  refine ws_forP encF t (fun pre δ => ∃ x2 x3, δ = [some (encTf t), some (.list ((hvT pre).map encF)), x2, x3]) (wa_seq (we_rd rfl (wl_r rfl ⟨rfl, ⟨none, none, rfl⟩, ?_, ?_⟩)))
  · rintro pre p post _ hpre ⟨x2, x3, rfl⟩
    have lp := hvT_len pre
    have l0 := congrArg List.length hpre
    simp at l0
    refine wg_tup (ds := [p.1.d, .int p.2]) rfl (wgs_cons (wg_set rfl (wgs_cons (wg_set rfl (wgs_nil ?_)))))
    try dsimp only [List.set_cons_succ, List.set_cons_zero]
    unfold b1_halved
    have il := in_LR p.1
    have fin : ∀ l : List Pf, l = hv p → On (fun δ => ∃ x2 x3, δ = [some (encTf t), some (.list ((hvT (pre ++ [p])).map encF)), x2, x3]) (.nx [some (encTf t), some (.list ((hvT pre).map encF ++ l.map encF)), some p.1.d, some (.int p.2)]) := by
      rintro l rfl
      refine ⟨some p.1.d, some (.int p.2), ?_⟩
      rw [hvT_snoc, List.map_append]
    by_cases c : p.1 = .l ∨ p.1 = .r
    · rw [decide_eq_true c] at il
      obtain ⟨k, n⟩ := p
      have go : ∀ (h : Kf), addD (.str "half") k.d = some h.d → hv (k, n) = [(h, n), (h, n)] → WS (seqS (ifS (tstB (c2 inD (rd 2) (tupV (aCons (cst (.str "left")) (aCons (cst (.str "right")) aNil))))) (seqS (exL 1 (c2 mulD (lstV (aCons (tupV (aCons (c2 addD (cst (.str "half")) (rd 2)) (aCons (rd 3) aNil))) aNil)) (cst (.int 2)))) skip) (seqS (apS 1 (tupV (aCons (rd 2) (aCons (rd 3) aNil)))) skip)) skip) [some (encTf t), some (.list ((hvT pre).map encF)), some k.d, some (.int n)] (On fun δ => ∃ x2 x3, δ = [some (encTf t), some (.list ((hvT (pre ++ [(k, n)])).map encF)), x2, x3]) := by
        intro h ha hh
        have mu : mulD (.list [.tuple [h.d, .int n]]) (.int 2) = some (.list [.tuple [h.d, .int n], .tuple [h.d, .int n]]) := by cases h <;> kernel_rfl
        have lx : ((hvT pre).map encF).length + [encF (h, n), encF (h, n)].length ≤ 16777216 := by rw [List.length_map]; simp; omega
        refine ws_if (wt_b (we_c2 (we_rd rfl (we_tup (wa_cons (we_cst (wa_cons (we_cst (wa_nil (wo_r (il) (⟨_, rfl, wb_t (ws_assoc (ws_ext rfl (we_c2 (we_lst (wa_cons (we_tup (wa_cons (we_c2 (we_cst (we_rd rfl (wo_r (ha) (wa_cons (we_rd rfl (wa_nil (wa_nil (we_cst (wo_r (mu) (⟨_, _, rfl, rfl, lx, ws_skip (ws_end (fin _ hh.symm))⟩))))))))))))))))))⟩)))))))))))
      rcases c with rfl | rfl
      · exact go .hl (by kernel_rfl) rfl
      · exact go .hr (by kernel_rfl) rfl
    · rw [decide_eq_false c] at il
      have la : ((hvT pre).map encF).length < 16777216 := by rw [List.length_map]; omega
      refine ws_if (wt_b (we_c2 (we_rd rfl (we_tup (wa_cons (we_cst (wa_cons (we_cst (wa_nil (wo_r (il) (⟨_, rfl, wb_f (ws_assoc (ws_app rfl (we_tup (wa_cons (we_rd rfl (wa_cons (we_rd rfl (wa_nil (⟨_, rfl, la, ws_skip (ws_end (fin [p] (hv_no c).symm))⟩)))))))))⟩)))))))))))
  · rintro _ ⟨x2, x3, rfl⟩
    have tu := tup_F (hvT t)
    refine ws_rt (we_call (wa_cons (we_rd rfl (wa_nil (wf_r (tu) (⟨_, rfl⟩))))))
theorem other_eq (p : Pf) : F_fine_other [encF p] = some (encF (mirF p)) := by
  obtain ⟨k, n⟩ := p
  cases k <;> kernel_rfl
theorem mir_eq (t : List Pf) : F_fine_mirrored [encTf t] = some (encTf (t.map mirF)) := by
  refine fn_of (δ0 := [some (encTf t), none]) rfl rfl ?_
  unfold den_fine_mirrored
  have e : (t.map mirF).map encF = t.map fun p => encF (mirF p) := by rw [List.map_map]; rfl
  have tu := tup_F (t.map mirF)
  rw [e] at tu
  refine ws_rt (we_call (wa_cons (we_lcm (encF) (t) ((fun p => encF (mirF p))) (wa_seq (we_rd rfl (wl_r (rfl) (⟨rfl, fun a ha => ⟨?_⟩, wa_nil (wf_r (tu) (⟨_, rfl⟩))⟩)))))))
  refine wg_set rfl ⟨rfl, wt_yes ⟨rfl, rfl, fun _ => ?_⟩⟩
  have o := other_eq a
  refine we_call (wa_cons (we_rd rfl (wa_nil (wf_r (o) (⟨rfl, rfl⟩)))))
theorem rev_F (t : List Pf) : revD (encTf t) = some (encTf t.reverse) := by
  show revD (.tuple (t.map encF)) = _
  rw [revTu (imm_map encF imF t), ← List.map_reverse]
  rfl
theorem back_eq (t : List Pf) : F_fine_back [encTf t] = some (encTf (bkF t)) := by
  refine fn_of (δ0 := [some (encTf t)]) rfl rfl ?_
  unfold den_fine_back
  have rv := rev_F t
  have mi := mir_eq t.reverse
  refine ws_rt (we_call (wa_cons (we_rv (we_rd rfl (wo_r (rv) (wa_nil (wf_r (mi) (⟨_, rfl⟩))))))))
theorem turn_eq (p : Pf) : F_fine_turn [encF p] = some (.int p.1.t) := by
  refine fn_of (δ0 := [some (encF p)]) rfl rfl ?_
  unfold den_fine_turn
  have i0 := ixF0 p
  have i1 := ixTu p.1
  refine ws_rt (we_c2 (we_cst (we_c2 (we_rd rfl (we_cst (wo_r (i0) (wo_r (i1) (⟨_, rfl⟩))))))))
theorem spot_of_eq (s : Spot) : F_fine_spot_of [encS s] = some (enc8 (fsp s)) := by kernel_rfl
theorem fp_o (t : List Pf) : F_fine_pose_after [.tuple [k_FINE_START, .int 0], encTf t] = some (encQ (dpF t, tsF t % 16)) := by
  have e := fp_eq (Sp8.z, 0) t
  rw [goF_eq t _ _ (by decide) (by decide), Sp8.z_add, turn8_0, Int.zero_add] at e
  exact e
theorem fp_at (s : Sp8) (h : Int) (h0 : 0 ≤ h) (h1 : h < 16) (t : List Pf) : F_fine_pose_after [encQ (s, h), encTf t] = some (encQ (Sp8.add s (turn8 h (dpF t)), (h + tsF t) % 16)) := by
  have e := fp_eq (s, h) t
  rw [goF_eq t _ _ h0 h1] at e
  exact e
end Lw
namespace Lw
open PySem hiding Env Run
open Dn Lb
variable [Wd]

def encX (x : Str) : D := .str x
/-- the texts of what is drawn -/
def TX : List Str := ["halfleft", "halfright", "left", "right", "straight"]
/-- what is bent -/
def okJ : Nat → D → Bool
  | _, .int i => decide (i.natAbs ≤ 100)
  | _, .str x => decide (x ∈ TX)
  | n + 1, .tuple ds => ds.all (okJ n) && decide (ds.length ≤ 12)
  | _, _ => false
/-- short texts, short tuples -/
def okV : Nat → D → Bool
  | _, .none => true
  | _, .bool _ => true
  | _, .int _ => true
  | _, .str x => PyData.canLay0 (.str x) && decide (x.length ≤ 100)
  | n + 1, .tuple ds => ds.all (okV n) && decide (ds.length ≤ 30)
  | _, _ => false
theorem okJ_tup {n : Nat} {ds : List D} (h : ∀ d ∈ ds, okJ n d = true) (hl : ds.length ≤ 12) : okJ (n + 1) (.tuple ds) = true := by
  show (ds.all (okJ n) && decide (ds.length ≤ 12)) = true
  rw [Bool.and_eq_true, List.all_eq_true, decide_eq_true_iff]
  exact ⟨h, hl⟩
theorem okJ_inv {n : Nat} {ds : List D} (h : okJ n (.tuple ds) = true) : ∃ m, n = m + 1 ∧ (∀ d ∈ ds, okJ m d = true) ∧ ds.length ≤ 12 := by
  cases n with
  | zero => cases h
  | succ m =>
    have h2 : (ds.all (okJ m) && decide (ds.length ≤ 12)) = true := h
    rw [Bool.and_eq_true, List.all_eq_true, decide_eq_true_iff] at h2
    exact ⟨m, rfl, h2⟩
theorem okV_tup {n : Nat} {ds : List D} (h : ∀ d ∈ ds, okV n d = true) (hl : ds.length ≤ 30) : okV (n + 1) (.tuple ds) = true := by
  show (ds.all (okV n) && decide (ds.length ≤ 30)) = true
  rw [Bool.and_eq_true, List.all_eq_true, decide_eq_true_iff]
  exact ⟨h, hl⟩
theorem okV_inv {n : Nat} {ds : List D} (h : okV n (.tuple ds) = true) : ∃ m, n = m + 1 ∧ (∀ d ∈ ds, okV m d = true) ∧ ds.length ≤ 30 := by
  cases n with
  | zero => cases h
  | succ m =>
    have h2 : (ds.all (okV m) && decide (ds.length ≤ 30)) = true := h
    rw [Bool.and_eq_true, List.all_eq_true, decide_eq_true_iff] at h2
    exact ⟨m, rfl, h2⟩
theorem okV_str {n : Nat} {x : Str} (h : PyData.canLay0 (.str x) = true) (hl : x.length ≤ 100) : okV n (.str x) = true := by
  have : (PyData.canLay0 (.str x) && decide (x.length ≤ 100)) = true := by rw [h, decide_eq_true hl]; rfl
  cases n <;> exact this
theorem okV_sinv {n : Nat} {x : Str} (h : okV n (.str x) = true) : PyData.canLay0 (.str x) = true ∧ x.length ≤ 100 := by
  have h2 : (PyData.canLay0 (.str x) && decide (x.length ≤ 100)) = true := by cases n <;> exact h
  rw [Bool.and_eq_true, decide_eq_true_iff] at h2
  exact h2
theorem okV_int {n : Nat} (i : Int) : okV n (.int i) = true := by cases n <;> rfl
theorem okV_B : ∀ (n : Nat) (d : D), okV n d = true → okB n d = true
  | n, .none, _ => by cases n <;> rfl
  | n, .bool b, _ => by cases n <;> rfl
  | n, .int i, _ => by cases n <;> rfl
  | n, .str x, h => by cases n <;> exact (okV_sinv h).1
  | 0, .tuple ds, h => by cases h
  | n + 1, .tuple ds, h => by
    obtain ⟨m, e, h1, h2⟩ := okV_inv h
    cases e
    exact okB_tup (fun d hd => okV_B n d (h1 d hd)) (by omega)
  | 0, .list _, h => by cases h
  | _ + 1, .list _, h => by cases h
  | 0, .dict _, h => by cases h
  | _ + 1, .dict _, h => by cases h
theorem okV_up : ∀ (n : Nat) (d : D), okV n d = true → okV (n + 1) d = true
  | n, .none, _ => rfl
  | n, .bool b, _ => rfl
  | n, .int i, _ => rfl
  | n, .str x, h => okV_str (okV_sinv h).1 (okV_sinv h).2
  | 0, .tuple ds, h => by cases h
  | n + 1, .tuple ds, h => by
    obtain ⟨m, e, h1, h2⟩ := okV_inv h
    cases e
    exact okV_tup (fun d hd => okV_up n d (h1 d hd)) h2
  | 0, .list _, h => by cases h
  | _ + 1, .list _, h => by cases h
  | 0, .dict _, h => by cases h
  | _ + 1, .dict _, h => by cases h
theorem tx_ok : ∀ x ∈ TX, PyData.canLay0 (.str x) = true ∧ x.length ≤ 100 := by decide +kernel
theorem okJ_V : ∀ (n : Nat) (d : D), okJ n d = true → okV n d = true
  | n, .none, h => by cases n <;> cases h
  | n, .bool b, h => by cases n <;> cases h
  | n, .int i, _ => okV_int i
  | n, .str x, h => by
    have : x ∈ TX := by cases n <;> exact of_decide_eq_true h
    exact okV_str (tx_ok x this).1 (tx_ok x this).2
  | 0, .tuple ds, h => by cases h
  | n + 1, .tuple ds, h => by
    obtain ⟨m, e, h1, h2⟩ := okJ_inv h
    cases e
    exact okV_tup (fun d hd => okJ_V n d (h1 d hd)) (by omega)
  | 0, .list _, h => by cases h
  | _ + 1, .list _, h => by cases h
  | 0, .dict _, h => by cases h
  | _ + 1, .dict _, h => by cases h
theorem immV {n : Nat} {l : List D} (h : ∀ d ∈ l, okV n d = true) : immutAll l = true := imm_ok fun d hd => okV_B n d (h d hd)
def sOK (o : Option D) : Bool := match o with
  | some (.str y) => PyData.canLay0 (.str y) && decide (y.length ≤ 100)
  | _ => false
theorem sOK_inv {n : Nat} {o : Option D} (h : sOK o = true) : ∃ d, o = some d ∧ okV n d = true := by
  match o, h with
  | some (.str y), h => exact ⟨_, rfl, okV_str ((Bool.and_eq_true _ _).mp h).1 (of_decide_eq_true ((Bool.and_eq_true _ _).mp h).2)⟩
  | some .none, h => cases h
  | some (.bool _), h => cases h
  | some (.int _), h => cases h
  | some (.tuple _), h => cases h
  | some (.list _), h => cases h
  | some (.dict _), h => cases h
  | none, h => cases h
theorem tx_sOK : (TX.all fun x => sOK (addD (.str x) (.str "a")) && (sOK (slD (.str x) (some 1) none) && (sOK (upD (.str x)) && sOK (addD (.str x) (.str "z0z0z0z0"))))) = true := by kernel_rfl
theorem tx_str {n : Nat} {x : Str} (h : x ∈ TX) : ∃ d1 d2 d3 d4, addD (.str x) (.str "a") = some d1 ∧ slD (.str x) (some 1) none = some d2 ∧ upD (.str x) = some d3 ∧ addD (.str x) (.str "z0z0z0z0") = some d4 ∧ okV n d1 = true ∧ okV n d2 = true ∧ okV n d3 = true ∧ okV n d4 = true := by
  have := List.all_eq_true.mp tx_sOK x h
  rw [Bool.and_eq_true, Bool.and_eq_true, Bool.and_eq_true] at this
  obtain ⟨a1, a2, a3, a4⟩ := this
  obtain ⟨d1, e1, o1⟩ := sOK_inv (n := n) a1
  obtain ⟨d2, e2, o2⟩ := sOK_inv (n := n) a2
  obtain ⟨d3, e3, o3⟩ := sOK_inv (n := n) a3
  obtain ⟨d4, e4, o4⟩ := sOK_inv (n := n) a4
  exact ⟨d1, d2, d3, d4, e1, e2, e3, e4, o1, o2, o3, o4⟩
theorem str_len : ∀ k : Fin 201, (PySem.Str.ofString (toString ((k.val : Int) - 100))).length ≤ 100 := by decide +kernel
theorem okV_ofInt {n : Nat} {i : Int} (h : i.natAbs ≤ 100) : okV n (.str (PySem.Str.ofString (toString i))) = true := by
  refine okV_str (str_ok _) ?_
  have := str_len ⟨(i + 100).toNat, by omega⟩
  have e : (((i + 100).toNat : Nat) : Int) - 100 = i := by omega
  simp only [e] at this
  exact this
theorem strD_ok {i : Int} (h : i.natAbs ≤ 100) : strD [.int i] = some (.str (PySem.Str.ofString (toString i))) := by
  show (if i.natAbs.log2 < 1920 then _ else _) = _
  have hi : i.natAbs < 2 ^ 100 := Nat.lt_of_le_of_lt h (by decide)
  rw [if_pos]
  exact Nat.lt_of_lt_of_le (PySem.Flt.log2_lt_of (by decide) hi) (by decide)
noncomputable def bt : CS := (seqS (asgS (stS 3) (ioV 0 F__law_draw (aCons (cst (.int 8)) aNil))) (seqS (ifS (tst (isiW "tuple" (rd 1))) (seqS (rtS (c2 ixD (lstV (aCons (c2 addD (rd 1) (slV (rd 1) noPt (ptOf (cst (.int 1))))) (aCons (slV (rd 1) (ptOf (cst (.int 1))) noPt) (aCons (rvV (rd 1)) (aCons (c2 addD (rd 1) (tupV (aCons (cst (.int 0)) aNil))) (aCons (c2 addD (slV (rd 1) noPt (ptOf (cst (.int 1)))) (rd 1)) (aCons (slV (rd 1) noPt (ptOf (c1 negD (cst (.int 1))))) (aCons (cst .none) (aCons (slV (rd 1) noPt (ptOf (cst (.int 1)))) aNil))))))))) (rd 3))) skip) skip) (seqS (ifS (andT (tst (isiW "int" (rd 1))) (notT (tst (isiW "bool" (rd 1))))) (seqS (rtS (c2 ixD (lstV (aCons (c2 addD (rd 1) (cst (.int 1))) (aCons (c2 subD (rd 1) (cst (.int 1))) (aCons (c1 negD (rd 1)) (aCons (c2 eqD (rd 1) (cst (.int 1))) (aCons (cst .none) (aCons (cN strD (aCons (rd 1) aNil)) (aCons (tupV (aCons (rd 1) aNil)) (aCons (c2 addD (rd 1) (cst (.int 1001))) aNil))))))))) (rd 3))) skip) skip) (seqS (ifS (tst (isiW "str" (rd 1))) (seqS (rtS (c2 ixD (lstV (aCons (c2 addD (rd 1) (cst (.str "a"))) (aCons (slV (rd 1) (ptOf (cst (.int 1))) noPt) (aCons (cst (.str "any")) (aCons (c1 upD (rd 1)) (aCons (cst (.int 0)) (aCons (cst (.str "")) (aCons (c2 addD (rd 1) (cst (.str "z0z0z0z0"))) (aCons (tupV (aCons (rd 1) aNil)) aNil))))))))) (rd 3))) skip) skip) (seqS (rtS (c2 ixD (lstV (aCons (cst (.int 0)) (aCons (cst (.int 1)) (aCons (cst .none) (aCons (cst (.bool true)) (aCons (cst (.bool false)) (aCons (cst (.str "a")) (aCons (tupV aNil) (aCons (c1 negD (cst (.int 1))) aNil))))))))) (rd 3))) skip)))))
def Pb (n : Nat) (fl : Fl) : Prop := ∃ d δ, ∃ l, fl = .rt d δ ∧ δ[0]? = some (some (.list l)) ∧ okV (n + 1) d = true ∧ BoxOk l
theorem fin8 {n : Nat} {rows : List D} {i : Int} {tp : List D} (hr : ∀ d ∈ rows, okV (n + 1) d = true) (h8 : rows.length = 8) (i0 : 0 ≤ i) (i1 : i < 8) {δ : Env} (h0 : δ[0]? = some (some (.list tp))) (hb : BoxOk tp) : WO (ixD (.list rows) (.int i)) fun r => Pb n (.rt r δ) := by
  obtain ⟨d, hd, e⟩ := ix_any (l := rows) i0 (by omega)
  exact wo_r e ⟨_, _, _, rfl, h0, hr d hd, hb⟩
set_option maxHeartbeats 1000000 in
theorem bt_ev {n : Nat} {v : D} (hv : okJ n v = true) {tp : List D} (hb : BoxOk tp) {x2 : Option D} : WS bt [some (.list tp), some v, x2, none] (Pb n) := by
  have z0 : okV (n + 1) (.int 0) = true := rfl
  have zn : okV (n + 1) .none = true := rfl
  unfold bt
  cases v with
  | int i =>
    have hi : i.natAbs ≤ 100 := by cases n <;> exact of_decide_eq_true hv
    have hs := strD_ok hi
    refine ws_asg (we_draw (n := 8) rfl hb (by decide) (by decide) (fun p tp p0 p1 hb => wg_set rfl (ws_if (wt_v (we_isi (we_rd rfl (⟨rfl, ⟨_, rfl, wb_f (ws_skip (ws_if (wt_and (wt_v (we_isi (we_rd rfl (⟨rfl, ⟨_, rfl, wb_t (wt_not (wt_v (we_isi (we_rd rfl (⟨rfl, ⟨_, rfl, wb_nf (ws_assoc (ws_rt (we_c2 (we_lst (wa_cons (we_c2 (we_rd rfl (we_cst (wo_r (addD_int _ _) (wa_cons (we_c2 (we_rd rfl (we_cst (wo_r (subD_int _ _) (wa_cons (we_c1 (we_rd rfl (wo_r (rfl) (wa_cons (we_c2 (we_rd rfl (we_cst (wo_r (eqD_int _ _) (wa_cons (we_cst (wa_cons (we_call (wa_cons (we_rd rfl (wa_nil (wf_r (hs) (wa_cons (we_tup (wa_cons (we_rd rfl (wa_nil (wa_cons (we_c2 (we_rd rfl (we_cst (wo_r (addD_int _ _) (wa_nil ?_))))))))))))))))))))))))))))))))))))))))))⟩⟩)))))⟩⟩)))))))⟩⟩)))))) (rfl))
    try dsimp only [List.set_cons_succ, List.set_cons_zero]
    exact we_rd rfl (fin8 (all8 rfl rfl rfl rfl zn (okV_ofInt hi) (okV_tup (fun d hd => by rw [List.mem_singleton.mp hd]; exact okV_int i) (by show 1 ≤ 30; decide)) rfl) rfl p0 p1 rfl hb)
  | str x =>
    have hx : x ∈ TX := by cases n <;> exact of_decide_eq_true hv
    obtain ⟨d1, d2, d3, d4, e1, e2, e3, e4, o1, o2, o3, o4⟩ := tx_str (n := n + 1) hx
    have q : slD (.str x) (some (Int.ofNat 1)) none = some d2 := e2
    refine ws_asg (we_draw (n := 8) rfl hb (by decide) (by decide) (fun p tp p0 p1 hb => wg_set rfl (ws_if (wt_v (we_isi (we_rd rfl (⟨rfl, ⟨_, rfl, wb_f (ws_skip (ws_if (wt_and (wt_v (we_isi (we_rd rfl (⟨rfl, ⟨_, rfl, wb_f (wb_f (ws_skip (ws_if (wt_v (we_isi (we_rd rfl (⟨rfl, ⟨_, rfl, wb_t (ws_assoc (ws_rt (we_c2 (we_lst (wa_cons (we_c2 (we_rd rfl (we_cst (wo_r (e1) (wa_cons (we_sl (we_rd rfl (wp_of (we_cst (⟨_, rfl, wp_no (wo_r (e2) (wa_cons (we_cst (wa_cons (we_c1 (we_rd rfl (wo_r (e3) (wa_cons (we_cst (wa_cons (we_cst (wa_cons (we_c2 (we_rd rfl (we_cst (wo_r (e4) (wa_cons ?_)))))))))))))))))⟩)))))))))))))))⟩⟩)))))))⟩⟩)))))))⟩⟩)))))) (rfl))
    try dsimp only [List.set_cons_succ, List.set_cons_zero]
    refine we_tup (wa_cons (we_rd rfl (wa_nil (wa_nil (we_rd rfl ?_)))))
    exact (fin8 (all8 o1 o2 (okV_str (x := "any") (by decide +kernel) (by decide +kernel)) o3 z0 (okV_str (x := "") (by decide +kernel) (by decide +kernel)) o4 (okV_tup (fun d hd => by rw [List.mem_singleton.mp hd]; exact okJ_V _ _ hv) (by show 1 ≤ 30; decide))) rfl p0 p1 rfl hb)
  | tuple vs =>
    obtain ⟨m, rfl, h1, h2⟩ := okJ_inv hv
    have hvs : ∀ d ∈ vs, okV m d = true := fun d hd => okJ_V m d (h1 d hd)
    have hvs1 : ∀ d ∈ vs, okV (m + 1) d = true := fun d hd => okV_up m d (hvs d hd)
    have hi : immutAll vs = true := immV hvs
    have s1 : slD (.tuple vs) none (some 1) = some (.tuple (cutD vs none (some 1))) := slD_tuple hi
    have s2 : slD (.tuple vs) (some 1) none = some (.tuple (cutD vs (some 1) none)) := slD_tuple hi
    have s3 : slD (.tuple vs) none (some (-1)) = some (.tuple (cutD vs none (some (-1)))) := slD_tuple hi
    have c1' := cut_len vs none (some 1)
    have c2' := cut_len vs (some 1) none
    have c3' := cut_len vs none (some (-1))
    have i1 : immutAll (cutD vs none (some 1)) = true := immV fun d hd => hvs d (cut_mem hd)
    have a1 : addD (.tuple vs) (.tuple (cutD vs none (some 1))) = some (.tuple (vs ++ cutD vs none (some 1))) := addTu hi i1 (by omega)
    have a2 : addD (.tuple vs) (.tuple [.int 0]) = some (.tuple (vs ++ [.int 0])) := addTu hi rfl (by simp; omega)
    have a3 : addD (.tuple (cutD vs none (some 1))) (.tuple vs) = some (.tuple (cutD vs none (some 1) ++ vs)) := addTu i1 hi (by omega)
    refine ws_asg (we_draw (n := 8) rfl hb (by decide) (by decide) (fun p tp p0 p1 hb => wg_set rfl (ws_if (wt_v (we_isi (we_rd rfl (⟨rfl, ⟨_, rfl, wb_t (ws_assoc (ws_rt (we_c2 (we_lst (wa_cons (we_c2 (we_rd rfl (we_sl (we_rd rfl (wp_no (wp_of (we_cst (⟨_, rfl, wo_r (s1) (wo_r (a1) (wa_cons (we_sl (we_rd rfl (wp_of (we_cst (⟨_, rfl, wp_no (wo_r (s2) (wa_cons (we_rv (we_rd rfl (wo_r (revTu hi) (wa_cons (we_c2 (we_rd rfl (we_tup (wa_cons (we_cst (wa_nil (wo_r (a2) (wa_cons (we_c2 (we_sl (we_rd rfl (wp_no (wp_of (we_cst (⟨_, rfl, wo_r (s1) (we_rd rfl (wo_r (a3) (wa_cons (we_sl (we_rd rfl (wp_no (wp_of (we_c1 (we_cst (wo_r (rfl) (⟨_, rfl, wo_r (s3) (wa_cons (we_cst (wa_cons (we_sl (we_rd rfl (wp_no (wp_of (we_cst (⟨_, rfl, wo_r (s1) (wa_nil ?_)⟩)))))))))⟩)))))))))))⟩)))))))))))))))))))))⟩)))))))⟩)))))))))))))⟩⟩)))))) (rfl))
    try dsimp only [List.set_cons_succ, List.set_cons_zero]
    refine we_rd rfl (fin8 (all8 ?_ ?_ ?_ ?_ ?_ ?_ zn ?_) rfl p0 p1 rfl hb)
    · refine okV_tup (fun d hd => ?_) (by rw [List.length_append]; omega)
      rcases List.mem_append.mp hd with h | h
      · exact hvs1 d h
      · exact hvs1 d (cut_mem h)
    · exact okV_tup (fun d hd => hvs1 d (cut_mem hd)) (by omega)
    · exact okV_tup (fun d hd => hvs1 d (List.mem_reverse.mp hd)) (by rw [List.length_reverse]; omega)
    · refine okV_tup (fun d hd => ?_) (by rw [List.length_append]; simp; omega)
      rcases List.mem_append.mp hd with h | h
      · exact hvs1 d h
      · rw [List.mem_singleton.mp h]; rfl
    · refine okV_tup (fun d hd => ?_) (by rw [List.length_append]; omega)
      rcases List.mem_append.mp hd with h | h
      · exact hvs1 d (cut_mem h)
      · exact hvs1 d h
    · exact okV_tup (fun d hd => hvs1 d (cut_mem hd)) (by omega)
    · exact okV_tup (fun d hd => hvs1 d (cut_mem hd)) (by omega)
  | none => cases n <;> cases hv
  | bool b => cases n <;> cases hv
  | list l => cases n <;> cases hv
  | dict l => cases n <;> cases hv
set_option maxHeartbeats 1000000 in
theorem bent_ev : ∀ (n : Nat) (v : D), okJ n v = true → ∀ (k : Nat) (tp : List D), BoxOk tp → ∃ r tp', F__law_bent (n + 1 + k) tp [v] = some (r, tp') ∧ okV (n + 1) r = true ∧ BoxOk tp' := by
  intro n
  induction n with
  | zero =>
    intro v hv k tp hb
    rw [show 0 + 1 + k = k + 1 by omega]
    exact go 0 v hv k tp hb fun ds h => by rw [h] at hv; cases hv
  | succ n ih =>
    intro v hv k tp hb
    rw [show n + 1 + 1 + k = (n + 1 + k) + 1 by omega]
    exact go (n + 1) v hv (n + 1 + k) tp hb fun ds h tp hb i hi => by
      subst h
      obtain ⟨m, e, h1, _⟩ := okJ_inv hv
      cases e
      exact ih _ (h1 _ (List.getElem_mem hi)) k tp hb
where
  go (n : Nat) (v : D) (hv : okJ n v = true) (k : Nat) (tp : List D) (hb : BoxOk tp) (rec : ∀ ds, v = .tuple ds → ∀ tp, BoxOk tp → ∀ i (hi : i < ds.length), ∃ r tp', F__law_bent k tp [ds[i]] = some (r, tp') ∧ okV n r = true ∧ BoxOk tp') : ∃ r tp', F__law_bent (k + 1) tp [v] = some (r, tp') ∧ okV (n + 1) r = true ∧ BoxOk tp' := by
    have h := fnI_any (s := den__law_bent (F__law_bent k)) (n := 4) (m := 2) (ds0 := tp) (ds := [v]) (P := fun d l => okV (n + 1) d = true ∧ BoxOk l) (δ0 := [some (.list tp), some v, none, none]) rfl rfl (by
      refine WS.mono (Q := Pb n) ?_ fun fl ⟨d, δ, l, e, h0, h1, h2⟩ => ⟨d, δ, l, e, h0, h1, h2⟩
      cases v with
      | tuple vs =>
        obtain ⟨m, rfl, h1, h2⟩ := okJ_inv hv
        have hvs : ∀ d ∈ vs, okV m d = true := fun d hd => okJ_V m d (h1 d hd)
        have hi : immutAll vs = true := immV hvs
        unfold den__law_bent
        by_cases h0 : 0 < vs.length
        · refine ws_if (wt_and (wt_v (we_isi (we_rd rfl (⟨rfl, ⟨_, rfl, wb_t (wt_and (wt_b (we_c2 (we_call (wa_cons (we_rd rfl (wa_nil (wf_r (lenTu vs) (we_cst (wo_r (gtD_int _ _) (⟨_, rfl, wb_of (c := true) (decide_eq_true (by omega)) (wb_t (wt_b (we_c2 (we_draw (n := 5) rfl hb (by decide) (by decide) (fun d tp d0 d1 hb => we_cst (wo_r (gtD_int _ _) (⟨_, rfl, wb_cases (fun hd => wb_t ?_) fun hd => wb_f ?_⟩))) (rfl)))))⟩)))))))))))⟩⟩)))))
          · refine ws_assoc (ws_asg ?_)
            refine we_draw (n := (vs.length : Nat)) rfl hb (by omega) (by omega) (fun j tp j0 j1 hb => ?_) (aCons_ev (cN_ev (ds := [.tuple vs]) rfl (lenTu vs)) rfl)
            obtain ⟨j, rfl⟩ : ∃ n : Nat, j = n := ⟨j.toNat, by omega⟩
            have hj : j < vs.length := by omega
            refine wg_set rfl ?_
            try dsimp only [List.set_cons_succ, List.set_cons_zero]
            have t1 : slD (.tuple vs) none (some (j : Int)) = some (.tuple (vs.take j)) := by rw [slD_tuple hi, cut_take]
            have t2 : slD (.tuple vs) (some ((j : Int) + 1)) none = some (.tuple (vs.drop (j + 1))) := by
              rw [show ((j : Int) + 1) = ((j + 1 : Nat) : Int) by omega, slD_tuple hi, cut_drop]
            have l1 : (vs.take j).length ≤ 12 := by rw [List.length_take]; omega
            have l2 : (vs.drop (j + 1)).length ≤ 12 := by rw [List.length_drop]; omega
            have ix : ixD (.tuple vs) (.int (j : Nat)) = some vs[j] := atI_nat (List.getElem?_eq_getElem hj)
            obtain ⟨r, tp', er, hr, hb'⟩ := rec vs rfl tp hb j hj
            have i1 : immutAll (vs.take j) = true := immV fun d hd => hvs d (List.mem_of_mem_take hd)
            have i2 : immutAll (vs.drop (j + 1)) = true := immV fun d hd => hvs d (List.mem_of_mem_drop hd)
            have i3 : immutAll [r] = true := immV fun d hd => by rw [List.mem_singleton.mp hd]; exact hr
            have i4 : immutAll (vs.take j ++ [r]) = true := immV (n := m + 1) fun d hd => by
              rcases List.mem_append.mp hd with h | h
              · exact okV_up m d (hvs d (List.mem_of_mem_take h))
              · rw [List.mem_singleton.mp h]; exact hr
            have a1 : addD (.tuple (vs.take j)) (.tuple [r]) = some (.tuple (vs.take j ++ [r])) := addTu i1 i3 (by simp; omega)
            have a2 : addD (.tuple (vs.take j ++ [r])) (.tuple (vs.drop (j + 1))) = some (.tuple (vs.take j ++ [r] ++ vs.drop (j + 1))) := addTu i4 i2 (by rw [List.length_append, List.length_singleton]; omega)
            refine ws_assoc (ws_rt (we_c2 (we_c2 ?_)))
            repeat (first | with_reducible refine ws_assoc ?_ | with_reducible refine ws_asg ?_ | with_reducible refine ws_rt ?_ | with_reducible refine ws_skip ?_ | refine wg_set rfl ?_ | refine wg_tup rfl ?_ | with_reducible refine wgs_cons ?_ | with_reducible refine wgs_nil ?_ | with_reducible refine ws_par2 ?_ | with_reducible refine ws_par3 ?_ | refine ws_aug rfl ?_ | refine we_rd rfl ?_ | with_reducible refine we_cst ?_ | with_reducible refine we_c2 ?_ | with_reducible refine we_c1 ?_ | with_reducible refine we_c3 ?_ | with_reducible refine we_call ?_ | with_reducible refine wa_nil ?_ | with_reducible refine wa_cons ?_ | with_reducible refine we_tup ?_ | with_reducible refine we_lst ?_ | with_reducible refine we_ifV ?_ | with_reducible refine we_sl ?_ | with_reducible refine wp_no ?_ | with_reducible refine wt_b ?_ | with_reducible refine wt_v ?_ | with_reducible refine wt_not ?_ | with_reducible refine wt_and ?_ | with_reducible refine wt_or ?_ | with_reducible refine wt_yes ?_ | with_reducible refine wb_t ?_ | with_reducible refine wb_f ?_ | with_reducible refine wb_nt ?_ | with_reducible refine wb_nf ?_ | with_reducible refine we_rv ?_ | with_reducible refine we_ch ?_ | with_reducible refine wa_seq ?_ | with_reducible refine wa_it ?_ | with_reducible refine wa_rg ?_ | with_reducible refine wp_of ?_ | with_reducible refine we_and ?_ | with_reducible refine we_or ?_ | with_reducible refine wo_r (addD_int _ _) ?_ | with_reducible refine wo_r (subD_int _ _) ?_ | with_reducible refine wo_r (negD_int _) ?_ | with_reducible refine wo_r (iaddD_int _ _) ?_ | with_reducible refine wo_r (ixL0 _ _ ) ?_ | with_reducible refine wo_r (ixL1 _ _ _ ) ?_ | with_reducible refine wo_r (ixL2 _ _ _ _ ) ?_ | with_reducible refine wo_r (ixL3 _ _ _ _ _ ) ?_ | with_reducible refine wo_r (ixT0 _ _ ) ?_ | with_reducible refine wo_r (ixT1 _ _ _ ) ?_ | with_reducible refine wo_r (ixT2 _ _ _ _ ) ?_ | with_reducible refine wo_r (ixT3 _ _ _ _ _ ) ?_ | with_reducible refine wo_r (t1) ?_ | refine Exists.intro _ (And.intro rfl ?_) | exact Exists.intro _ rfl | dsimp only [List.set_cons_succ, List.set_cons_zero])
            refine we_io rfl (wa_cons (we_c2 (we_rd rfl (we_rd rfl (wo_r ix (wa_nil ⟨_, _, _, rfl, er, ?_⟩))))))
            try dsimp only [List.set_cons_succ, List.set_cons_zero]
            repeat (first | with_reducible refine ws_assoc ?_ | with_reducible refine ws_asg ?_ | with_reducible refine ws_rt ?_ | with_reducible refine ws_skip ?_ | refine wg_set rfl ?_ | refine wg_tup rfl ?_ | with_reducible refine wgs_cons ?_ | with_reducible refine wgs_nil ?_ | with_reducible refine ws_par2 ?_ | with_reducible refine ws_par3 ?_ | refine ws_aug rfl ?_ | refine we_rd rfl ?_ | with_reducible refine we_cst ?_ | with_reducible refine we_c2 ?_ | with_reducible refine we_c1 ?_ | with_reducible refine we_c3 ?_ | with_reducible refine we_call ?_ | with_reducible refine wa_nil ?_ | with_reducible refine wa_cons ?_ | with_reducible refine we_tup ?_ | with_reducible refine we_lst ?_ | with_reducible refine we_ifV ?_ | with_reducible refine we_sl ?_ | with_reducible refine wp_no ?_ | with_reducible refine wt_b ?_ | with_reducible refine wt_v ?_ | with_reducible refine wt_not ?_ | with_reducible refine wt_and ?_ | with_reducible refine wt_or ?_ | with_reducible refine wt_yes ?_ | with_reducible refine wb_t ?_ | with_reducible refine wb_f ?_ | with_reducible refine wb_nt ?_ | with_reducible refine wb_nf ?_ | with_reducible refine we_rv ?_ | with_reducible refine we_ch ?_ | with_reducible refine wa_seq ?_ | with_reducible refine wa_it ?_ | with_reducible refine wa_rg ?_ | with_reducible refine wp_of ?_ | with_reducible refine we_and ?_ | with_reducible refine we_or ?_ | with_reducible refine wo_r (addD_int _ _) ?_ | with_reducible refine wo_r (subD_int _ _) ?_ | with_reducible refine wo_r (negD_int _) ?_ | with_reducible refine wo_r (iaddD_int _ _) ?_ | with_reducible refine wo_r (ixL0 _ _ ) ?_ | with_reducible refine wo_r (ixL1 _ _ _ ) ?_ | with_reducible refine wo_r (ixL2 _ _ _ _ ) ?_ | with_reducible refine wo_r (ixL3 _ _ _ _ _ ) ?_ | with_reducible refine wo_r (ixT0 _ _ ) ?_ | with_reducible refine wo_r (ixT1 _ _ _ ) ?_ | with_reducible refine wo_r (ixT2 _ _ _ _ ) ?_ | with_reducible refine wo_r (ixT3 _ _ _ _ _ ) ?_ | with_reducible refine wo_r (a1) ?_ | with_reducible refine wo_r (t2) ?_ | with_reducible refine wo_r (a2) ?_ | refine Exists.intro _ (And.intro rfl ?_) | exact Exists.intro _ rfl | dsimp only [List.set_cons_succ, List.set_cons_zero])
            refine ⟨_, _, _, rfl, rfl, okV_tup (n := m + 1) (fun d hd => ?_) (by rw [List.length_append, List.length_append, List.length_singleton]; omega), hb'⟩
            rcases List.mem_append.mp hd with h | h
            · rcases List.mem_append.mp h with h | h
              · exact okV_up m d (hvs d (List.mem_of_mem_take h))
              · rw [List.mem_singleton.mp h]; exact hr
            · exact okV_up m d (hvs d (List.mem_of_mem_drop h))
          · exact ws_skip (bt_ev hv hb)
        · refine ws_if (wt_and (wt_v (we_isi (we_rd rfl (⟨rfl, ⟨_, rfl, wb_t (wt_and (wt_b (we_c2 (we_call (wa_cons (we_rd rfl (wa_nil (wf_r (lenTu vs) (we_cst (wo_r (gtD_int _ _) (⟨_, rfl, wb_of (c := false) (decide_eq_false (by omega)) (wb_f (wb_f ?_))⟩)))))))))))⟩⟩)))))
          exact ws_skip (bt_ev hv hb)
      | int i =>
        unfold den__law_bent
        refine ws_if (wt_and (wt_v (we_isi (we_rd rfl (⟨rfl, ⟨_, rfl, wb_f (wb_f ?_)⟩⟩)))))
        exact ws_skip (bt_ev hv hb)
      | str x =>
        unfold den__law_bent
        refine ws_if (wt_and (wt_v (we_isi (we_rd rfl (⟨rfl, ⟨_, rfl, wb_f (wb_f ?_)⟩⟩)))))
        exact ws_skip (bt_ev hv hb)
      | none => cases n <;> cases hv
      | bool b => cases n <;> cases hv
      | list l => cases n <;> cases hv
      | dict l => cases n <;> cases hv)
    obtain ⟨d, l, e, h1, h2⟩ := h
    exact ⟨d, l, e, h1, h2⟩
end Lw
namespace Lw
open PySem hiding Env Run
open Dn Lb
variable [Wd]

theorem two_of {ds : List D} (hl : ds.length = 2) : ∃ a b, ds = [a, b] := by
  match ds, hl with
  | [a, b], _ => exact ⟨a, b, rfl⟩
theorem gdV {n : Nat} (hn : n ≤ 60) {d : D} (h : okV n d = true) : Ok 60 d := (okB_ok _ _ (okV_B _ _ h)).1.up hn
theorem okV_dic {n : Nat} {d : D} (h : okV n d = true) : noDic d = true := by
  cases d with
  | dict l => cases n <;> cases h
  | _ => rfl
def fpV : D → Bool
  | .tuple [.str k, d] => decide (k ∈ TX) && inB d 1 20
  | _ => false
theorem fpV_no {d : D} (h : ∀ w x, d ≠ .tuple [.str w, x]) : PyData.bool false = PyData.bool (fpV d) := by
  unfold fpV
  split
  · exact absurd rfl (h _ _)
  · rfl
theorem TX_lay : ∀ k ∈ TX, PyData.canLay0 (.str k) = true := by decide +kernel
theorem in_TX {k : Str} (h : PyData.canLay0 (.str k) = true) : inD (.str k) k_FINE_KINDS = some (.bool (decide (k ∈ TX))) := by
  have e : k_FINE_KINDS = .tuple (TX.map encX) := rfl
  rw [e, inT_gd (.str h) (fun d hd => by
    obtain ⟨y, hy, rfl⟩ := List.mem_map.mp hd
    exact .str (TX_lay y hy)) (by decide)]
  exact congrArg (fun b => some (PyData.bool b)) (any_enc (enc := encX) (fun a b e => PyData.str.inj e) k TX)
theorem nin_TX {k : Str} (h : PyData.canLay0 (.str k) = true) : notInD (.str k) (.tuple [.str "halfleft", .str "halfright", .str "left", .str "right", .str "straight"]) = some (.bool (!decide (k ∈ TX))) := by
  have e : (.tuple [.str "halfleft", .str "halfright", .str "left", .str "right", .str "straight"] : D) = .tuple (TX.map encX) := rfl
  rw [e, ninT_gd (.str h) (fun d hd => by
    obtain ⟨y, hy, rfl⟩ := List.mem_map.mp hd
    exact .str (TX_lay y hy)) (by decide)]
  exact congrArg (fun b => some (PyData.bool (!b))) (any_enc (enc := encX) (fun a b e => PyData.str.inj e) k TX)
set_option maxHeartbeats 1000000 in
theorem is_piece_any {n : Nat} (hn : n ≤ 60) {v : D} (hv : okV n v = true) : F_is_fine_piece [v] = some (.bool (fpV v)) := by
  obtain ⟨d, e, rfl⟩ : ∃ d, F_is_fine_piece [v] = some d ∧ d = .bool (fpV v) := by
    refine fn_any (δ0 := [some v]) rfl rfl ?_
    unfold den_is_fine_piece
    cases v with
    | tuple ds =>
      obtain ⟨m, rfl, h1, h2⟩ := okV_inv hv
      by_cases hl : ds.length = 2
      · obtain ⟨a, b, rfl⟩ := two_of hl
        have ha := h1 a List.mem_cons_self
        have hb := h1 b (List.mem_cons_of_mem _ List.mem_cons_self)
        have nb := is_number_eq (gdV (by omega) hb) 1 20
        cases a with
        | str w =>
          have q := in_TX (okV_sinv ha).1
          cases c : decide (w ∈ TX) with
          | false =>
            rw [c] at q
            refine ws_if (wt_or (wt_not (wt_v (we_isi (we_rd rfl (⟨rfl, ⟨_, rfl, wb_nt (wt_or (wt_b (we_c2 (we_call (wa_cons (we_rd rfl (wa_nil (wf_r (rfl) (we_cst (wo_r (rfl) (⟨_, rfl, wb_f (wt_not (wt_v (we_isi (we_c2 (we_rd rfl (we_cst (wo_r (rfl) (⟨rfl, ⟨_, rfl, wb_nt (ws_skip (ws_rt (we_and (we_c2 (we_c2 (we_rd rfl (we_cst (wo_r (rfl) (we_cst (wo_r (q) (⟨_, rfl, wb_f (⟨_, _, rfl, ?_⟩)⟩)))))))))))⟩⟩))))))))⟩)))))))))))⟩⟩))))))
            show _ = PyData.bool (decide (w ∈ TX) && _)
            rw [c]
            rfl
          | true =>
            rw [c] at q
            refine ws_if (wt_or (wt_not (wt_v (we_isi (we_rd rfl (⟨rfl, ⟨_, rfl, wb_nt (wt_or (wt_b (we_c2 (we_call (wa_cons (we_rd rfl (wa_nil (wf_r (rfl) (we_cst (wo_r (rfl) (⟨_, rfl, wb_f (wt_not (wt_v (we_isi (we_c2 (we_rd rfl (we_cst (wo_r (rfl) (⟨rfl, ⟨_, rfl, wb_nt (ws_skip (ws_rt (we_and (we_c2 (we_c2 (we_rd rfl (we_cst (wo_r (rfl) (we_cst (wo_r (q) (⟨_, rfl, wb_t (we_call (wa_cons (we_c2 (we_rd rfl (we_cst (wo_r (rfl) (wa_cons (we_cst (wa_cons (we_cst (wa_nil (wf_r (nb) (⟨_, _, rfl, ?_⟩)))))))))))))⟩)))))))))))⟩⟩))))))))⟩)))))))))))⟩⟩))))))
            show _ = PyData.bool (decide (w ∈ TX) && _)
            rw [c]
            rfl
        | dict _ => cases m <;> cases ha
        | _ =>
          refine ws_if (wt_or (wt_not (wt_v (we_isi (we_rd rfl (⟨rfl, ⟨_, rfl, wb_nt (wt_or (wt_b (we_c2 (we_call (wa_cons (we_rd rfl (wa_nil (wf_r (rfl) (we_cst (wo_r (rfl) (⟨_, rfl, wb_f (wt_not (wt_v (we_isi (we_c2 (we_rd rfl (we_cst (wo_r (rfl) (⟨rfl, ⟨_, rfl, wb_nf (ws_assoc (ws_rt (we_cst (⟨_, _, rfl, rfl⟩))))⟩⟩))))))))⟩)))))))))))⟩⟩)))))) /- LEFT: ['T'] -/
      · have ll := lenTu ds
        have hc : (!decide (((ds.length : Nat) : Int) = 2)) = true := by rw [decide_eq_false (by omega)]; rfl
        refine ws_if (wt_or (wt_not (wt_v (we_isi (we_rd rfl (⟨rfl, ⟨_, rfl, wb_nt (wt_or (wt_b (we_c2 (we_call (wa_cons (we_rd rfl (wa_nil (wf_r (ll) (we_cst (wo_r (neD_int _ _) (⟨_, rfl, wb_of (c := true) (hc) (wb_t (wb_t (ws_assoc (ws_rt (we_cst (⟨_, _, rfl, fpV_no fun w x z => hl (by injection z with z; rw [z]; rfl)⟩))))))⟩)))))))))))⟩⟩))))))
    | dict _ => cases n <;> cases hv
    | _ =>
      refine ws_if (wt_or (wt_not (wt_v (we_isi (we_rd rfl (⟨rfl, ⟨_, rfl, wb_nf (wb_t (ws_assoc (ws_rt (we_cst (⟨_, _, rfl, rfl⟩)))))⟩⟩))))))
  exact e
set_option maxHeartbeats 1000000 in
theorem law_is_piece_any {n : Nat} (hn : n ≤ 60) {v : D} (hv : okV n v = true) : F__law_is_piece [v] = some (.bool (fpV v)) := by
  obtain ⟨d, e, rfl⟩ : ∃ d, F__law_is_piece [v] = some d ∧ d = .bool (fpV v) := by
    refine fn_any (δ0 := [some v]) rfl rfl ?_
    unfold den__law_is_piece
    cases v with
    | tuple ds =>
      obtain ⟨m, rfl, h1, h2⟩ := okV_inv hv
      by_cases hl : ds.length = 2
      · obtain ⟨a, b, rfl⟩ := two_of hl
        have ha := h1 a List.mem_cons_self
        have hb := h1 b (List.mem_cons_of_mem _ List.mem_cons_self)
        cases a with
        | str w =>
          have q := nin_TX (okV_sinv ha).1
          cases c : decide (w ∈ TX) with
          | false =>
            rw [c] at q
            refine ws_if (wt_or (wt_not (wt_v (we_isi (we_rd rfl (⟨rfl, ⟨_, rfl, wb_nt (wt_or (wt_b (we_c2 (we_call (wa_cons (we_rd rfl (wa_nil (wf_r (rfl) (we_cst (wo_r (rfl) (⟨_, rfl, wb_f (wt_or (wt_not (wt_v (we_isi (we_c2 (we_rd rfl (we_cst (wo_r (rfl) (⟨rfl, ⟨_, rfl, wb_nt (wt_b (we_c2 (we_c2 (we_rd rfl (we_cst (wo_r (rfl) (we_tup (wa_cons (we_cst (wa_cons (we_cst (wa_cons (we_cst (wa_cons (we_cst (wa_cons (we_cst (wa_nil (wo_r (q) (⟨_, rfl, wb_t (ws_assoc (ws_rt (we_cst (⟨_, _, rfl, ?_⟩))))⟩))))))))))))))))))))⟩⟩)))))))))⟩)))))))))))⟩⟩)))))) /- LEFT: ['T'] -/
            show _ = PyData.bool (decide (w ∈ TX) && _)
            rw [c]
            rfl
          | true =>
            rw [c] at q
            have e : fpV (.tuple [.str w, b]) = inB b 1 20 := by
              show (decide (w ∈ TX) && _) = _
              rw [c]
              rfl
            rw [e]
            cases b with
            | int i =>
              have g1 := leD_int 1 i
              have g2 := leD_int i 20
              show WS _ _ fun fl => ∃ d δ, fl = Fl.rt d δ ∧ d = .bool (decide (1 ≤ i) && decide (i ≤ 20))
              cases d1 : decide (1 ≤ i) with
              | false =>
                rw [d1] at g1
                refine ws_if (wt_or (wt_not (wt_v (we_isi (we_rd rfl (⟨rfl, ⟨_, rfl, wb_nt (wt_or (wt_b (we_c2 (we_call (wa_cons (we_rd rfl (wa_nil (wf_r (rfl) (we_cst (wo_r (rfl) (⟨_, rfl, wb_f (wt_or (wt_not (wt_v (we_isi (we_c2 (we_rd rfl (we_cst (wo_r (rfl) (⟨rfl, ⟨_, rfl, wb_nt (wt_b (we_c2 (we_c2 (we_rd rfl (we_cst (wo_r (rfl) (we_tup (wa_cons (we_cst (wa_cons (we_cst (wa_cons (we_cst (wa_cons (we_cst (wa_cons (we_cst (wa_nil (wo_r (q) (⟨_, rfl, wb_f (ws_skip (ws_rt (we_and (we_isi (we_c2 (we_rd rfl (we_cst (wo_r (rfl) (⟨rfl, ⟨_, rfl, wb_t (we_and (we_c1 (we_isi (we_c2 (we_rd rfl (we_cst (wo_r (rfl) (⟨rfl, wo_r (rfl) (⟨_, rfl, wb_t (we_ch (we_cst (we_c2 (we_rd rfl (we_cst (wo_r (rfl) (wo_r (g1) ⟨_, rfl, wb_f (⟨_, _, rfl, rfl⟩)⟩)))))))⟩)⟩))))))))⟩⟩)))))))))⟩))))))))))))))))))))⟩⟩)))))))))⟩)))))))))))⟩⟩))))))
              | true =>
                rw [d1] at g1
                refine ws_if (wt_or (wt_not (wt_v (we_isi (we_rd rfl (⟨rfl, ⟨_, rfl, wb_nt (wt_or (wt_b (we_c2 (we_call (wa_cons (we_rd rfl (wa_nil (wf_r (rfl) (we_cst (wo_r (rfl) (⟨_, rfl, wb_f (wt_or (wt_not (wt_v (we_isi (we_c2 (we_rd rfl (we_cst (wo_r (rfl) (⟨rfl, ⟨_, rfl, wb_nt (wt_b (we_c2 (we_c2 (we_rd rfl (we_cst (wo_r (rfl) (we_tup (wa_cons (we_cst (wa_cons (we_cst (wa_cons (we_cst (wa_cons (we_cst (wa_cons (we_cst (wa_nil (wo_r (q) (⟨_, rfl, wb_f (ws_skip (ws_rt (we_and (we_isi (we_c2 (we_rd rfl (we_cst (wo_r (rfl) (⟨rfl, ⟨_, rfl, wb_t (we_and (we_c1 (we_isi (we_c2 (we_rd rfl (we_cst (wo_r (rfl) (⟨rfl, wo_r (rfl) (⟨_, rfl, wb_t (we_ch (we_cst (we_c2 (we_rd rfl (we_cst (wo_r (rfl) (wo_r (g1) ⟨_, rfl, wb_t (we_cst (wo_r (g2) (⟨_, _, rfl, rfl⟩)))⟩)))))))⟩)⟩))))))))⟩⟩)))))))))⟩))))))))))))))))))))⟩⟩)))))))))⟩)))))))))))⟩⟩))))))
            | bool i =>
              refine ws_if (wt_or (wt_not (wt_v (we_isi (we_rd rfl (⟨rfl, ⟨_, rfl, wb_nt (wt_or (wt_b (we_c2 (we_call (wa_cons (we_rd rfl (wa_nil (wf_r (rfl) (we_cst (wo_r (rfl) (⟨_, rfl, wb_f (wt_or (wt_not (wt_v (we_isi (we_c2 (we_rd rfl (we_cst (wo_r (rfl) (⟨rfl, ⟨_, rfl, wb_nt (wt_b (we_c2 (we_c2 (we_rd rfl (we_cst (wo_r (rfl) (we_tup (wa_cons (we_cst (wa_cons (we_cst (wa_cons (we_cst (wa_cons (we_cst (wa_cons (we_cst (wa_nil (wo_r (q) (⟨_, rfl, wb_f (ws_skip (ws_rt (we_and (we_isi (we_c2 (we_rd rfl (we_cst (wo_r (rfl) (⟨rfl, ⟨_, rfl, wb_t (we_and (we_c1 (we_isi (we_c2 (we_rd rfl (we_cst (wo_r (rfl) (⟨rfl, wo_r (rfl) (⟨_, rfl, wb_f (⟨_, _, rfl, rfl⟩)⟩)⟩))))))))⟩⟩)))))))))⟩))))))))))))))))))))⟩⟩)))))))))⟩)))))))))))⟩⟩))))))
            | dict _ => cases m <;> cases hb
            | _ =>
              refine ws_if (wt_or (wt_not (wt_v (we_isi (we_rd rfl (⟨rfl, ⟨_, rfl, wb_nt (wt_or (wt_b (we_c2 (we_call (wa_cons (we_rd rfl (wa_nil (wf_r (rfl) (we_cst (wo_r (rfl) (⟨_, rfl, wb_f (wt_or (wt_not (wt_v (we_isi (we_c2 (we_rd rfl (we_cst (wo_r (rfl) (⟨rfl, ⟨_, rfl, wb_nt (wt_b (we_c2 (we_c2 (we_rd rfl (we_cst (wo_r (rfl) (we_tup (wa_cons (we_cst (wa_cons (we_cst (wa_cons (we_cst (wa_cons (we_cst (wa_cons (we_cst (wa_nil (wo_r (q) (⟨_, rfl, wb_f (ws_skip (ws_rt (we_and (we_isi (we_c2 (we_rd rfl (we_cst (wo_r (rfl) (⟨rfl, ⟨_, rfl, wb_f (⟨_, _, rfl, rfl⟩)⟩⟩)))))))))⟩))))))))))))))))))))⟩⟩)))))))))⟩)))))))))))⟩⟩))))))
        | dict _ => cases m <;> cases ha
        | _ =>
          refine ws_if (wt_or (wt_not (wt_v (we_isi (we_rd rfl (⟨rfl, ⟨_, rfl, wb_nt (wt_or (wt_b (we_c2 (we_call (wa_cons (we_rd rfl (wa_nil (wf_r (rfl) (we_cst (wo_r (rfl) (⟨_, rfl, wb_f (wt_or (wt_not (wt_v (we_isi (we_c2 (we_rd rfl (we_cst (wo_r (rfl) (⟨rfl, ⟨_, rfl, wb_nf (wb_t (ws_assoc (ws_rt (we_cst (⟨_, _, rfl, rfl⟩)))))⟩⟩)))))))))⟩)))))))))))⟩⟩))))))
      · have ll := lenTu ds
        have hc : (!decide (((ds.length : Nat) : Int) = 2)) = true := by rw [decide_eq_false (by omega)]; rfl
        refine ws_if (wt_or (wt_not (wt_v (we_isi (we_rd rfl (⟨rfl, ⟨_, rfl, wb_nt (wt_or (wt_b (we_c2 (we_call (wa_cons (we_rd rfl (wa_nil (wf_r (ll) (we_cst (wo_r (neD_int _ _) (⟨_, rfl, wb_of (c := true) (hc) (wb_t (wb_t (ws_assoc (ws_rt (we_cst (⟨_, _, rfl, fpV_no fun w x z => hl (by injection z with z; rw [z]; rfl)⟩))))))⟩)))))))))))⟩⟩))))))
    | dict _ => cases n <;> cases hv
    | _ =>
      refine ws_if (wt_or (wt_not (wt_v (we_isi (we_rd rfl (⟨rfl, ⟨_, rfl, wb_nf (wb_t (ws_assoc (ws_rt (we_cst (⟨_, _, rfl, rfl⟩)))))⟩⟩))))))
  exact e
/-- what is asked of the judges: a tuple that may be long, or no tuple -/
inductive Gv : D → Prop
  | tup {ds : List D} : (∀ d ∈ ds, okV 6 d = true) → ds.length ≤ 1000 → Gv (.tuple ds)
  | non {v : D} : isTup v = false → noDic v = true → Gv v
theorem Gv.of {v : D} (h : okV 7 v = true) : Gv v := by
  cases v with
  | tuple ds =>
    obtain ⟨m, e, h1, h2⟩ := okV_inv h
    cases e
    exact .tup h1 (by omega)
  | _ => exact .non rfl (okV_dic h)
def trV : D → Bool
  | .tuple ds => decide (ds.length ≤ 200) && ds.all fpV
  | _ => false
def spV : D → Bool
  | .tuple ds => decide (ds.length = 8) && ds.all isInt
  | _ => false
theorem le200 (n : Nat) : leD (.int (n : Nat)) (.int 200) = some (.bool (decide (n ≤ 200))) := by
  rw [leD_int]
  congr 2
  exact decide_eq_decide.mpr (by omega)
theorem is_track_any {v : D} (hv : Gv v) : F_is_fine_track [v] = some (.bool (trV v)) := by
  obtain ⟨d, e, rfl⟩ : ∃ d, F_is_fine_track [v] = some d ∧ d = .bool (trV v) := by
    refine fn_any (δ0 := [some v, none]) rfl rfl ?_
    unfold den_is_fine_track
    cases hv with
    | @tup ds h1 h2 =>
      have ll := lenTu ds
      have f : leD (.int (ds.length : Nat)) k_MOST_PIECES = some (.bool (decide (ds.length ≤ 200))) := le200 ds.length
      have al := all_map fpV ds
      show WS _ _ fun fl => ∃ d δ, fl = Fl.rt d δ ∧ d = .bool (decide (ds.length ≤ 200) && ds.all fpV)
      cases c : decide (ds.length ≤ 200) with
      | false =>
        rw [c] at f
        refine ws_rt (we_and (we_isi (we_rd rfl (⟨rfl, ⟨_, rfl, wb_t (we_and (we_c2 (we_call (wa_cons (we_rd rfl (wa_nil (wf_r (ll) (we_cst (wo_r (f) (⟨_, rfl, wb_f (⟨_, _, rfl, rfl⟩)⟩))))))))))⟩⟩))))
      | true =>
        rw [c] at f
        refine ws_rt (we_and (we_isi (we_rd rfl (⟨rfl, ⟨_, rfl, wb_t (we_and (we_c2 (we_call (wa_cons (we_rd rfl (wa_nil (wf_r (ll) (we_cst (wo_r (f) (⟨_, rfl, wb_t (we_call (wa_cons (we_lcm (id : D → D) (ds) ((fun d => .bool (fpV d))) (wa_seq (we_rd rfl (wl_r (rfl) (⟨(List.map_id _).symm, fun a ha => ⟨?_⟩, wa_nil (wf_r (al) (⟨_, _, rfl, rfl⟩))⟩)))))))⟩))))))))))⟩⟩))))
        refine wg_set rfl ⟨rfl, wt_yes ⟨rfl, rfl, fun _ => ?_⟩⟩
        have i := is_piece_any (by decide) (h1 _ ha)
        refine we_call (wa_cons (we_rd rfl (wa_nil (wf_r (i) (⟨rfl, rfl⟩)))))
    | non t nd =>
      cases v with
      | tuple _ => cases t
      | dict _ => cases nd
      | _ =>
        refine ws_rt (we_and (we_isi (we_rd rfl (⟨rfl, ⟨_, rfl, wb_f (⟨_, _, rfl, rfl⟩)⟩⟩))))
  exact e
theorem is_spot_any {v : D} (hv : Gv v) : F_is_fine_spot [v] = some (.bool (spV v)) := by
  obtain ⟨d, e, rfl⟩ : ∃ d, F_is_fine_spot [v] = some d ∧ d = .bool (spV v) := by
    refine fn_any (δ0 := [some v, none]) rfl rfl ?_
    unfold den_is_fine_spot
    cases hv with
    | @tup ds h1 h2 =>
      have ll := lenTu ds
      have f : eqD (.int (ds.length : Nat)) (.int 8) = some (.bool (decide (ds.length = 8))) := eqNat ds.length 8
      have al := all_map isInt ds
      show WS _ _ fun fl => ∃ d δ, fl = Fl.rt d δ ∧ d = .bool (decide (ds.length = 8) && ds.all isInt)
      cases c : decide (ds.length = 8) with
      | false =>
        rw [c] at f
        refine ws_rt (we_and (we_isi (we_rd rfl (⟨rfl, ⟨_, rfl, wb_t (we_and (we_c2 (we_call (wa_cons (we_rd rfl (wa_nil (wf_r (ll) (we_cst (wo_r (f) (⟨_, rfl, wb_f (⟨_, _, rfl, rfl⟩)⟩))))))))))⟩⟩))))
      | true =>
        rw [c] at f
        refine ws_rt (we_and (we_isi (we_rd rfl (⟨rfl, ⟨_, rfl, wb_t (we_and (we_c2 (we_call (wa_cons (we_rd rfl (wa_nil (wf_r (ll) (we_cst (wo_r (f) (⟨_, rfl, wb_t (we_call (wa_cons (we_lcm (id : D → D) (ds) ((fun d => .bool (isInt d))) (wa_seq (we_rd rfl (wl_r (rfl) (⟨(List.map_id _).symm, fun a ha => ⟨?_⟩, wa_nil (wf_r (al) (⟨_, _, rfl, rfl⟩))⟩)))))))⟩))))))))))⟩⟩))))
        refine wg_set rfl ⟨rfl, wt_yes ⟨rfl, rfl, fun _ => ?_⟩⟩
        have i := is_whole_eq (gdV (by decide) (h1 _ ha))
        refine we_call (wa_cons (we_rd rfl (wa_nil (wf_r (i) (⟨rfl, rfl⟩)))))
    | non t nd =>
      cases v with
      | tuple _ => cases t
      | dict _ => cases nd
      | _ =>
        refine ws_rt (we_and (we_isi (we_rd rfl (⟨rfl, ⟨_, rfl, wb_f (⟨_, _, rfl, rfl⟩)⟩⟩))))
  exact e
end Lw
namespace Lw
open PySem hiding Env Run
open Dn Lb
variable [Wd]

/-- a drawn track -/
def Dp (ks : List Kf) (p : Pf) : Prop := p.1 ∈ ks ∧ 1 ≤ p.2 ∧ p.2 ≤ 3
theorem ks_at {ks : List Kf} {w : Int} (h0 : 0 ≤ w) (h1 : w < ks.length) : ∃ k ∈ ks, ixD (.list (ks.map Kf.d)) (.int w) = some k.d := by
  obtain ⟨n, rfl⟩ : ∃ n : Nat, w = n := ⟨w.toNat, by omega⟩
  have hn : n < ks.length := by omega
  refine ⟨ks[n], List.getElem_mem hn, atI_nat ?_⟩
  rw [List.getElem?_map, List.getElem?_eq_getElem hn]
  rfl
theorem track_ev {tp : List D} (ht : BoxOk tp) (ks : List Kf) (hk : 1 ≤ ks.length) (hk2 : ks.length ≤ 10) (m : Nat) (hm : m ≤ 100) : ∃ t tp', F__law_track tp [.int (m : Nat), .list (ks.map Kf.d)] = some (encTf t, tp') ∧ (∀ p ∈ t, Dp ks p) ∧ t.length ≤ m ∧ BoxOk tp' := by
  obtain ⟨d, tp', e, t, rfl, h⟩ : ∃ d l, F__law_track tp [.int (m : Nat), .list (ks.map Kf.d)] = some (d, l) ∧ ∃ t, d = encTf t ∧ (∀ p ∈ t, Dp ks p) ∧ t.length ≤ m ∧ BoxOk l := by
    refine fnI_any (P := fun d l => ∃ t, d = encTf t ∧ (∀ p ∈ t, Dp ks p) ∧ t.length ≤ m ∧ BoxOk l) (δ0 := [some (.list tp), some (.int (m : Nat)), some (.list (ks.map Kf.d)), none]) rfl rfl ?_
    unfold den__law_track
    refine ws_rt (we_call (wa_cons (we_lcd encF (Dp ks) (fun δ => ∃ tp x, BoxOk tp ∧ δ = [some (.list tp), some (.int (m : Nat)), some (.list (ks.map Kf.d)), x]) (wa_rg (wa_cons ?_)))))
    refine we_draw rfl ht (n := (m : Int) + 1) (by omega) (by omega) (fun w tp w0 w1 ht => ?_) rfl
    obtain ⟨w, rfl⟩ : ∃ m : Nat, w = m := ⟨w.toNat, by omega⟩
    refine wa_nil (wl_r (rg1_nat (by omega)) ⟨⟨tp, none, ht, rfl⟩, ?_, ?_⟩)
    · rintro d hd δ ⟨tp, x, ht, rfl⟩
      refine wg_set rfl ?_
      unfold e1__law_track
      have ll : lenD [.list (ks.map Kf.d)] = some (.int (ks.length : Nat)) := lenLm _
      refine we_tup (wa_cons (we_c2 (we_rd rfl ?_)))
      refine we_draw rfl ht (n := (ks.length : Nat)) (by omega) (by omega) (fun u tp u0 u1 ht => ?_) (aCons_ev (cN_ev (ds := [.list (ks.map Kf.d)]) rfl ll) rfl)
      obtain ⟨k, hk, ek⟩ := ks_at u0 u1
      refine wo_r ek (wa_cons (we_c2 (we_cst ?_)))
      refine we_draw rfl ht (n := 3) (by decide) (by decide) (fun v tp v0 v1 ht => ?_) rfl
      exact wo_r (addD_int _ _) (wa_nil ⟨(k, 1 + v), rfl, ⟨hk, by show 1 ≤ 1 + v; omega, by show 1 + v ≤ 3; omega⟩, tp, _, ht, rfl⟩)
    · rintro l _ ⟨tp, x, ht, rfl⟩ hp hl
      rw [List.length_map, List.length_range] at hl
      exact wa_nil (wf_r (tup_F l) ⟨_, _, tp, rfl, rfl, l, rfl, hp, by omega, ht⟩)
  exact ⟨t, tp', e, h.1, h.2.1, h.2.2⟩
def Bd (K : Nat) (s : Sp8) : Prop := s.a.natAbs ≤ K ∧ s.b.natAbs ≤ K ∧ s.c.natAbs ≤ K ∧ s.d.natAbs ≤ K ∧ s.e.natAbs ≤ K ∧ s.f.natAbs ≤ K ∧ s.g.natAbs ≤ K ∧ s.h.natAbs ≤ K
theorem na {x y : Int} {K L : Nat} (h : x.natAbs ≤ K) (g : y.natAbs ≤ L) : (x + y).natAbs ≤ K + L := by omega
theorem bd_add {K L : Nat} {s t : Sp8} (h : Bd K s) (g : Bd L t) : Bd (K + L) (Sp8.add s t) := by
  obtain ⟨h1, h2, h3, h4, h5, h6, h7, h8⟩ := h
  obtain ⟨g1, g2, g3, g4, g5, g6, g7, g8⟩ := g
  exact ⟨na h1 g1, na h2 g2, na h3 g3, na h4 g4, na h5 g5, na h6 g6, na h7 g7, na h8 g8⟩
theorem bd_rot {K : Nat} {s : Sp8} (h : Bd K s) : Bd K (Sp8.rot s) := by
  obtain ⟨h1, h2, h3, h4, h5, h6, h7, h8⟩ := h
  exact ⟨by show (-s.h).natAbs ≤ K; rw [Int.natAbs_neg]; exact h8, h1, h2, h3, h4, h5, h6, h7⟩
theorem bd_rotN {K : Nat} : ∀ (n : Nat) {s : Sp8}, Bd K s → Bd K (Sp8.rotN n s)
  | 0, _, h => h
  | n + 1, s, h => bd_rotN n (bd_rot h)
theorem bd_turn {K : Nat} {s : Sp8} (k : Int) (h : Bd K s) : Bd K (turn8 k s) := bd_rotN _ h
theorem bd_unit {K : Nat} {n : Int} (h : n.natAbs ≤ K) : Bd K (Sp8.unit n) := ⟨h, Nat.zero_le _, Nat.zero_le _, Nat.zero_le _, Nat.zero_le _, Nat.zero_le _, Nat.zero_le _, Nat.zero_le _⟩
theorem bd_mono {K L : Nat} {s : Sp8} (h : Bd K s) (hl : K ≤ L) : Bd L s := by
  obtain ⟨h1, h2, h3, h4, h5, h6, h7, h8⟩ := h
  exact ⟨Nat.le_trans h1 hl, Nat.le_trans h2 hl, Nat.le_trans h3 hl, Nat.le_trans h4 hl, Nat.le_trans h5 hl, Nat.le_trans h6 hl, Nat.le_trans h7 hl, Nat.le_trans h8 hl⟩
theorem bd_step {p : Pf} {h : Int} (hp : p.2.natAbs ≤ 3) : Bd 6 (stepF p h) := by
  unfold stepF
  by_cases c : p.1 = .s
  · rw [if_pos c]
    exact bd_mono (bd_turn _ (bd_unit hp)) (by decide)
  · rw [if_neg c]
    exact bd_add (K := 3) (L := 3) (bd_turn _ (bd_unit hp)) (bd_turn _ (bd_unit (by omega)))
theorem bd_dp : ∀ {t : List Pf}, (∀ p ∈ t, p.2.natAbs ≤ 3) → Bd (6 * t.length) (dpF t)
  | [], _ => bd_unit (n := 0) (Nat.zero_le _)
  | p :: t, h => by
    have h1 := bd_step (h := 0) (h p List.mem_cons_self)
    have h2 := bd_turn p.1.t (bd_dp (t := t) fun q hq => h q (List.mem_cons_of_mem _ hq))
    exact bd_mono (bd_add h1 h2) (by rw [List.length_cons]; omega)
def whK (b : Bool) : Kf := if b then .l else .r
def haK (b : Bool) : Kf := if b then .hl else .hr
def sgn (b : Bool) : Int := if b then 1 else -1
def cst4 (b : Bool) : Int := if b then 4 else 12
structure Rd (b : Bool) (n : Int) (left : Nat) (t : List Pf) : Prop where
  sd : ∀ p ∈ t, Sd (cst4 b) n p ∧ (p.1 = whK b ∨ p.1 = haK b)
  sum : tsF t = sgn b * (16 - (left : Int))
theorem sd_wh (b : Bool) (n : Int) : Sd (cst4 b) n (whK b, n) := by cases b <;> exact ⟨rfl, (fun z => by cases z), rfl⟩
theorem sd_ha (b : Bool) (n : Int) : Sd (cst4 b) n (haK b, n) := by cases b <;> exact ⟨rfl, (fun z => by cases z), rfl⟩
theorem Rd.wh {b : Bool} {n : Int} {left : Nat} {t : List Pf} (h : Rd b n left t) (h1 : 1 < left) : Rd b n (left - 2) (t ++ [(whK b, n)]) := ⟨fun p hp => by
  rcases List.mem_append.mp hp with hp | hp
  · exact h.sd p hp
  · rw [List.mem_singleton.mp hp]
    exact ⟨sd_wh b n, .inl rfl⟩, by
  rw [tsF_append, h.sum]
  show _ + ((whK b).t + 0) = _
  cases b
  · show -1 * (16 - (left : Int)) + (-2 + 0) = -1 * (16 - ((left - 2 : Nat) : Int)); omega
  · show 1 * (16 - (left : Int)) + (2 + 0) = 1 * (16 - ((left - 2 : Nat) : Int)); omega⟩
theorem Rd.ha {b : Bool} {n : Int} {left : Nat} {t : List Pf} (h : Rd b n left t) (h1 : 0 < left) : Rd b n (left - 1) (t ++ [(haK b, n)]) := ⟨fun p hp => by
  rcases List.mem_append.mp hp with hp | hp
  · exact h.sd p hp
  · rw [List.mem_singleton.mp hp]
    exact ⟨sd_ha b n, .inr rfl⟩, by
  rw [tsF_append, h.sum]
  show _ + ((haK b).t + 0) = _
  cases b
  · show -1 * (16 - (left : Int)) + (-1 + 0) = -1 * (16 - ((left - 1 : Nat) : Int)); omega
  · show 1 * (16 - (left : Int)) + (1 + 0) = 1 * (16 - ((left - 1 : Nat) : Int)); omega⟩
theorem Rd.nil (b : Bool) (n : Int) : Rd b n 16 [] := ⟨(fun p hp => nomatch hp), by cases b <;> rfl⟩
theorem rd_close {b : Bool} {n : Int} {t : List Pf} (h : Rd b n 0 t) : ClF t := cl_round (c := cst4 b) (n := n) (fun p hp => (h.sd p hp).1) (by
  rw [h.sum]
  cases b <;> rfl)
theorem rd_ne {b : Bool} {n : Int} {t : List Pf} (h : Rd b n 0 t) : t ≠ [] := by
  rintro rfl
  have := h.sum
  cases b <;> cases this
theorem rd_tail {b : Bool} {n : Int} {t : List Pf} (h : Rd b n 0 t) : ¬ ClF (t.drop 1) := by
  rintro ⟨_, h2⟩
  cases t with
  | nil => exact rd_ne h rfl
  | cons p t =>
    have h3 := h.sum
    have h4 := (h.sd p List.mem_cons_self).2
    have h2 : tsF t % 16 = 0 := h2
    have h3 : p.1.t + tsF t = sgn b * (16 - (0 : Int)) := h3
    rcases h4 with h4 | h4 <;> rw [h4] at h3 <;> cases b
    · have h3 : -2 + tsF t = -1 * (16 - (0 : Int)) := h3; omega
    · have h3 : 2 + tsF t = 1 * (16 - (0 : Int)) := h3; omega
    · have h3 : -1 + tsF t = -1 * (16 - (0 : Int)) := h3; omega
    · have h3 : 1 + tsF t = 1 * (16 - (0 : Int)) := h3; omega
theorem closB_t {t : List Pf} (h : ClF t) (hne : t ≠ []) : closB t = true := by
  unfold closB
  rw [decide_eq_true hne, decide_eq_true (p := dpF t = Sp8.z ∧ tsF t % 16 = 0) h]
  rfl
theorem closB_f {t : List Pf} (h : ¬ ClF t) : closB t = false := by
  unfold closB
  rw [decide_eq_false (p := dpF t = Sp8.z ∧ tsF t % 16 = 0) h, Bool.and_false]
end Lw
namespace Lw
open PySem hiding Env Run
open Dn Lb
variable [Wd]

def w22 : CS := (seqS (forS (seqI (c2 catF (lstV (aCons (rd 4) (aCons (cN listD (aCons (rd 4) aNil)) (aCons (c2 mulD (rd 4) (cst (.int 30))) (aCons (tupV (aCons (tupV (aCons (cst (.str "left")) (aCons (cst (.int 0)) aNil))) aNil)) (aCons (tupV (aCons (tupV (aCons (cst (.str "left")) (aCons (cst (.int 21)) aNil))) aNil)) (aCons (tupV (aCons (tupV (aCons (cst (.str "right")) (aCons (cst (.bool true)) aNil))) aNil)) (aCons (tupV (aCons (tupV (aCons (cst (.str "halfback")) (aCons (cst (.int 1)) aNil))) aNil)) (aCons (cst .none) (aCons (tupV aNil) (aCons (cst (.int 0)) aNil))))))))))) (lcV (rgV rg1 (aCons (cst (.int 4)) aNil)) (stS 25) [25] yesT e10_law))) (stS 21) b12_law) (seqS (forS (seqI (c2 catF (lstV (aCons (rd 5) (aCons (slV (rd 5) (ptOf (cst (.int 1))) noPt) (aCons (c2 addD (rd 5) (tupV (aCons (cst (.int 0)) aNil))) (aCons (c2 addD (tupV (aCons (cst (.bool true)) aNil)) (slV (rd 5) (ptOf (cst (.int 1))) noPt)) (aCons (cst .none) (aCons (tupV aNil) (aCons (cst (.int 0)) aNil)))))))) (lcV (rgV rg1 (aCons (cst (.int 3)) aNil)) (stS 25) [25] yesT e13_law))) (stS 21) b15_law) skip))
def w18 : CS := (seqS (par3S 16 17 18 (c2 addD (cst (.int 1)) (ioV 1 F__law_draw (aCons (cst (.int 4)) aNil))) (c2 ixD (lstV (aCons (cst (.str "left")) (aCons (cst (.str "right")) aNil))) (ioV 1 F__law_draw (aCons (cst (.int 2)) aNil))) (lstV aNil)) (seqS (asgS (stS 19) (cst (.int 16))) (seqS (forS (rgV rg1 (aCons (cst (.int 16)) aNil)) (stS 20) b9_law) (seqS (ifS (orT (tstB (c2 isNotD (cN F_does_fine_close (aCons (cN tupleD (aCons (rd 18) aNil)) aNil)) (cst (.bool true)))) (orT (tstB (c2 isNotD (cN F_does_fine_close (aCons (cN tupleD (aCons (slV (rd 18) (ptOf (cst (.int 1))) noPt) aNil)) aNil)) (cst (.bool false)))) (tstB (c2 isNotD (cN F_does_fine_close (aCons (c2 addD (cN tupleD (aCons (rd 18) aNil)) (tupV (aCons (tupV (aCons (cst (.str "straight")) (aCons (cst (.int 1)) aNil))) aNil))) aNil)) (cst (.bool false)))))) (seqS (rtS (cst (.bool false))) skip) skip) w22))))
def w15 : CS := (seqS (asgS (stS 14) (ioV 1 F__law_track (aCons (cst (.int 8)) (aCons (lstV (aCons (cst (.str "left")) (aCons (cst (.str "right")) (aCons (cst (.str "straight")) aNil)))) aNil)))) (seqS (asgS (stS 15) (cN F_pose_after (aCons (tupV (aCons (tupV (aCons (cst (.int 0)) (aCons (cst (.int 0)) (aCons (cst (.int 0)) (aCons (cst (.int 0)) aNil))))) (aCons (cst (.int 0)) aNil))) (aCons (rd 14) aNil)))) (seqS (ifS (orT (notT (tst (cN (F__law_same 8) (aCons (cN F_fine_pose_after (aCons (tupV (aCons (cst k_FINE_START) (aCons (cst (.int 0)) aNil))) (aCons (rd 14) aNil))) (aCons (tupV (aCons (cN F_fine_spot_of (aCons (c2 ixD (rd 15) (cst (.int 0))) aNil)) (aCons (c2 mulD (cst (.int 2)) (c2 ixD (rd 15) (cst (.int 1)))) aNil))) aNil))))) (tstB (c2 neD (cN F_does_fine_close (aCons (rd 14) aNil)) (cN F_is_closed (aCons (rd 14) aNil))))) (seqS (rtS (cst (.bool false))) skip) skip) w18)))
def w8 : CS := (seqS (asgS (stS 10) (dispV (pCons (cst (.str "halfleft")) (cst (.str "halfright")) (pCons (cst (.str "halfright")) (cst (.str "halfleft")) (pCons (cst (.str "left")) (cst (.str "right")) (pCons (cst (.str "right")) (cst (.str "left")) (pCons (cst (.str "straight")) (cst (.str "straight")) pNil))))))) (seqS (asgS (stS 11) (cN tupleD (aCons (lcV (seqI (rd 4)) (tgT 2 (tCons' (stS 24) (tCons' (stS 8) tNil'))) [24, 8] yesT e6_law) aNil))) (seqS (ifS (notT (tst (cN (F__law_same 8) (aCons (tupV (aCons (cN F_fine_mirrored (aCons (rd 4) aNil)) (aCons (cN F_fine_back (aCons (rd 4) aNil)) (aCons (cN tupleD (aCons (lcV (seqI (rd 4)) (stS 9) [9] yesT e7_law) aNil)) aNil)))) (aCons (tupV (aCons (rd 11) (aCons (rvV (rd 11)) (aCons (rd 11) aNil)))) aNil))))) (seqS (rtS (cst (.bool false))) skip) skip) (seqS (asgS (stS 12) (c2 addD (tupV (aCons (c2 ixD (rd 5) (cst (.int 0))) aNil)) (cN tupleD (aCons (lcV (seqI (c1 rv0D (rd 5))) (stS 26) [26] yesT e8_law) aNil)))) (seqS (ifS (notT (tst (cN (F__law_same 8) (aCons (cN F_fine_pose_after (aCons (tupV (aCons (cst k_FINE_START) (aCons (cst (.int 0)) aNil))) (aCons (rd 11) aNil))) (aCons (tupV (aCons (rd 12) (aCons (c2 subD (c1 negD (rd 6)) (c2 mulD (c2 fdivD (c1 negD (rd 6)) (cst (.int 16))) (cst (.int 16)))) aNil))) aNil))))) (seqS (rtS (cst (.bool false))) skip) skip) (seqS (asgS (stS 13) (cN F_fine_pose_after (aCons (tupV (aCons (rd 5) (aCons (c2 subD (c2 addD (rd 6) (cst (.int 8))) (c2 mulD (c2 fdivD (c2 addD (rd 6) (cst (.int 8))) (cst (.int 16))) (cst (.int 16)))) aNil))) (aCons (cN F_fine_back (aCons (rd 4) aNil)) aNil)))) (seqS (ifS (notT (tst (cN (F__law_same 8) (aCons (rd 13) (aCons (tupV (aCons (c2 mulD (tupV (aCons (cst (.int 0)) aNil)) (cst (.int 8))) (aCons (cst (.int 8)) aNil))) aNil))))) (seqS (rtS (cst (.bool false))) skip) skip) w15)))))))

def ks5 : List Kf := [.hl, .hr, .l, .r, .s]
def kD5 : D := .list (ks5.map Kf.d)
def Inv27 (δ : Env) : Prop := ∃ tp, ∃ x0 x3 x4 x5 x6 x7 x8 x9 x10 x11 x12 x13 x14 x15 x16 x17 x18 x19 x20 x21 x22 x23 x24 x25 x26, δ = [x0, some (.list tp), some kD5, x3, x4, x5, x6, x7, x8, x9, x10, x11, x12, x13, x14, x15, x16, x17, x18, x19, x20, x21, x22, x23, x24, x25, x26] ∧ BoxOk tp
def InV (t : List Pf) (s : Sp8) (δ : Env) : Prop := ∃ tp, ∃ x0 x3 x6 x7 x8 x9 x10 x11 x12 x13 x14 x15 x16 x17 x18 x19 x20 x21 x22 x23 x24 x25 x26, δ = [x0, some (.list tp), some kD5, x3, some (encTf t), some (enc8 s), x6, x7, x8, x9, x10, x11, x12, x13, x14, x15, x16, x17, x18, x19, x20, x21, x22, x23, x24, x25, x26] ∧ BoxOk tp
theorem sm_ok {n : Nat} {d : D} (h : Ok n d) (hn : n ≤ 7) : F__law_same 8 [d, d] = some (.bool true) := same_self (n := 7) (h.up hn)
theorem sm_bool (b : Bool) : F__law_same 8 [.bool b, .bool b] = some (.bool true) := same_self (n := 7) (.bl _)
theorem sm_two (a b : Bool) : F__law_same 8 [.tuple [.bool a, .bool b], .tuple [.bool a, .bool b]] = some (.bool true) := sm_ok (n := 1) (Ok.t2 (n := 0) (.bl _) (.bl _)) (by decide)
theorem okV_le {n m : Nat} {d : D} (h : okV n d = true) (hm : n ≤ m) : okV m d = true := by
  induction hm with
  | refl => exact h
  | step _ ih => exact okV_up _ _ ih
theorem neD_bool (a b : Bool) : neD (.bool a) (.bool b) = some (.bool (!decide (a = b))) := by
  cases a <;> cases b <;> kernel_rfl
theorem piece_non {v : D} (t : isTup v = false) (nd : noDic v = true) : F_is_fine_piece [v] = some (.bool false) ∧ F__law_is_piece [v] = some (.bool false) := by
  constructor
  · obtain ⟨d, e, rfl⟩ : ∃ d, F_is_fine_piece [v] = some d ∧ d = .bool false := by
      refine fn_any (δ0 := [some v]) rfl rfl ?_
      unfold den_is_fine_piece
      cases v with
      | tuple _ => cases t
      | dict _ => cases nd
      | _ =>
        refine ws_if (wt_or (wt_not (wt_v (we_isi (we_rd rfl (⟨rfl, ⟨_, rfl, wb_nf (wb_t (ws_assoc (ws_rt (we_cst (⟨_, _, rfl, rfl⟩)))))⟩⟩))))))
    exact e
  · obtain ⟨d, e, rfl⟩ : ∃ d, F__law_is_piece [v] = some d ∧ d = .bool false := by
      refine fn_any (δ0 := [some v]) rfl rfl ?_
      unfold den__law_is_piece
      cases v with
      | tuple _ => cases t
      | dict _ => cases nd
      | _ =>
        refine ws_if (wt_or (wt_not (wt_v (we_isi (we_rd rfl (⟨rfl, ⟨_, rfl, wb_nf (wb_t (ws_assoc (ws_rt (we_cst (⟨_, _, rfl, rfl⟩)))))⟩⟩))))))
    exact e
theorem ne_cons {d : D} {r : List D} (h : ∀ x ∈ d :: r, okV 6 x = true) (hl : (d :: r).length ≤ 1000) : neD (.tuple (d :: r)) (.tuple []) = some (.bool true) := by
  have o1 : Ok 60 (.tuple (d :: r)) := (Ok.tup (n := 59) (fun x hx => (okB_ok _ _ (okV_B _ _ (h x hx))).1.up (by decide)) (by omega))
  have o2 : Ok 60 (.tuple []) := (Ok.tup (n := 59) (fun x hx => nomatch hx) (by decide))
  rw [neD_ev o1 o2 (by decide)]
  rfl
section
variable {t : List Pf} {s : Sp8}
set_option maxHeartbeats 1000000 in
theorem b12_ev {v : D} (hv : Gv v) {tp : List D} (hb : BoxOk tp) {x0 x3 x6 x7 x8 x9 x10 x11 x12 x13 x14 x15 x16 x17 x18 x19 x20 x22 x23 x24 x25 x26 : Option D} : WS b12_law [x0, some (.list tp), some kD5, x3, some (encTf t), some (enc8 s), x6, x7, x8, x9, x10, x11, x12, x13, x14, x15, x16, x17, x18, x19, x20, some v, x22, x23, x24, x25, x26] (On (InV t s)) := by
  unfold b12_law
  have tr := is_track_any hv
  cases hv with
  | non n nd =>
    obtain ⟨p1, p2⟩ := piece_non n nd
    have e : trV v = false := by cases v <;> first | rfl | cases n
    rw [e] at tr
    have sm := sm_two false false
    cases v with
    | tuple _ => cases n
    | dict _ => cases nd
    | _ =>
      refine ws_asg (we_ifV (wt_and (wt_v (we_isi (we_rd rfl (⟨rfl, ⟨_, rfl, wb_f (wb_f (we_rd rfl (wg_set rfl (ws_asg (we_tup (wa_cons (we_and (we_isi (we_rd rfl (⟨rfl, ⟨_, rfl, wb_f (wa_cons (we_call (wa_cons (we_rd rfl (wa_nil (wf_r (p2) (wa_nil (wg_set rfl (ws_if (wt_not (wt_v (we_call (wa_cons (we_tup (wa_cons (we_call (wa_cons (we_rd rfl (wa_nil (wf_r (tr) (wa_cons (we_call (wa_cons (we_rd rfl (wa_nil (wf_r (p1) (wa_nil (wa_cons (we_rd rfl (wa_nil (wf_r (sm) (⟨_, rfl, wb_nt (ws_skip (ws_end ⟨_, _, _, _, _, _, _, _, _, _, _, _, _, _, _, _, _, _, _, _, _, _, _, _, rfl, hb⟩))⟩))))))))))))))))))))))))))))))))⟩⟩))))))))))⟩⟩))))))
  | @tup ds h1 h2 =>
    have ll := lenTu ds
    have f := le200 ds.length
    have al := all_map fpV ds
    have hl : ∀ d ∈ ds, F__law_is_piece [d] = some (.bool (fpV d)) := fun d hd => law_is_piece_any (by decide) (h1 d hd)
    have go : ∀ (one : D) (q : Bool) (y23 : Option D), F_is_fine_piece [one] = some (.bool q) → F__law_is_piece [one] = some (.bool q) → WS (seqS (asgS (stS 23) (tupV (aCons (andV (isiW "tuple" (rd 21)) (andV (c2 leD (cN lenD (aCons (rd 21) aNil)) (cst (.int 200))) (cN allD (aCons (lcV (seqI (rd 21)) (stS 9) [9] yesT e11_law) aNil)))) (aCons (cN F__law_is_piece (aCons (rd 22) aNil)) aNil)))) (seqS (ifS (notT (tst (cN (F__law_same 8) (aCons (tupV (aCons (cN F_is_fine_track (aCons (rd 21) aNil)) (aCons (cN F_is_fine_piece (aCons (rd 22) aNil)) aNil))) (aCons (rd 23) aNil))))) (seqS (rtS (cst (.bool false))) skip) skip) skip)) [x0, some (.list tp), some kD5, x3, some (encTf t), some (enc8 s), x6, x7, x8, x9, x10, x11, x12, x13, x14, x15, x16, x17, x18, x19, x20, some (.tuple ds), some one, y23, x24, x25, x26] (On (InV t s)) := by
      intro one q y23 p1 p2
      have tr : F_is_fine_track [.tuple ds] = some (.bool (decide (ds.length ≤ 200) && ds.all fpV)) := tr
      cases c : decide (ds.length ≤ 200) with
      | false =>
        rw [c] at f tr
        have sm := sm_two false q
        have tr : F_is_fine_track [.tuple ds] = some (.bool false) := tr
        refine ws_asg (we_tup (wa_cons (we_and (we_isi (we_rd rfl (⟨rfl, ⟨_, rfl, wb_t (we_and (we_c2 (we_call (wa_cons (we_rd rfl (wa_nil (wf_r (ll) (we_cst (wo_r (f) (⟨_, rfl, wb_f (wa_cons (we_call (wa_cons (we_rd rfl (wa_nil (wf_r (p2) (wa_nil (wg_set rfl (ws_if (wt_not (wt_v (we_call (wa_cons (we_tup (wa_cons (we_call (wa_cons (we_rd rfl (wa_nil (wf_r (tr) (wa_cons (we_call (wa_cons (we_rd rfl (wa_nil (wf_r (p1) (wa_nil (wa_cons (we_rd rfl (wa_nil (wf_r (sm) (⟨_, rfl, wb_nt (ws_skip (ws_end ⟨_, _, _, _, _, _, _, _, _, _, _, _, _, _, _, _, _, _, _, _, _, _, _, _, rfl, hb⟩))⟩))))))))))))))))))))))))))))))))⟩))))))))))⟩⟩))))))
      | true =>
        rw [c] at f tr
        have tr : F_is_fine_track [.tuple ds] = some (.bool (ds.all fpV)) := tr
        have sm := sm_two (ds.all fpV) q
        refine ws_asg (we_tup (wa_cons (we_and (we_isi (we_rd rfl (⟨rfl, ⟨_, rfl, wb_t (we_and (we_c2 (we_call (wa_cons (we_rd rfl (wa_nil (wf_r (ll) (we_cst (wo_r (f) (⟨_, rfl, wb_t (we_call (wa_cons (we_lcm (id : D → D) (ds) ((fun d => .bool (fpV d))) (wa_seq (we_rd rfl (wl_r (rfl) (⟨(List.map_id _).symm, fun a ha => ⟨?_⟩, wa_nil (wf_r (al) (wa_cons (we_call (wa_cons (we_rd rfl (wa_nil (wf_r (p2) (wa_nil (wg_set rfl (ws_if (wt_not (wt_v (we_call (wa_cons (we_tup (wa_cons (we_call (wa_cons (we_rd rfl (wa_nil (wf_r (tr) (wa_cons (we_call (wa_cons (we_rd rfl (wa_nil (wf_r (p1) (wa_nil (wa_cons (we_rd rfl (wa_nil (wf_r (sm) (⟨_, rfl, wb_nt (ws_skip (ws_end ⟨_, _, _, _, _, _, _, _, _, _, _, _, _, _, _, _, _, _, _, _, _, _, _, _, rfl, hb⟩))⟩)))))))))))))))))))))))))))))))))⟩)))))))⟩))))))))))⟩⟩))))))
        refine wg_set rfl ⟨rfl, wt_yes ⟨rfl, rfl, fun _ => ?_⟩⟩
        have i := hl _ ha
        refine we_call (wa_cons (we_rd rfl (wa_nil (wf_r (i) (⟨rfl, rfl⟩)))))
    cases ds with
    | nil =>
      have ne : neD (.tuple []) (.tuple []) = some (.bool false) := by kernel_rfl
      have p1 : F_is_fine_piece [.tuple []] = some (.bool false) := is_piece_any (n := 1) (by decide) rfl
      have p2 : F__law_is_piece [.tuple []] = some (.bool false) := law_is_piece_any (n := 1) (by decide) rfl
      refine ws_asg (we_ifV (wt_and (wt_v (we_isi (we_rd rfl (⟨rfl, ⟨_, rfl, wb_t (wt_b (we_c2 (we_rd rfl (we_tup (wa_nil (wo_r (ne) (⟨_, rfl, wb_f (we_rd rfl (wg_set rfl ?_))⟩)))))))⟩⟩))))))
      try dsimp only [List.set_cons_succ, List.set_cons_zero]
      exact go _ false _ p1 p2
    | cons d r =>
      have ne := ne_cons h1 h2
      have ix : ixD (.tuple (d :: r)) (.int 0) = some d := ixT0 _ _
      refine ws_asg (we_ifV (wt_and (wt_v (we_isi (we_rd rfl (⟨rfl, ⟨_, rfl, wb_t (wt_b (we_c2 (we_rd rfl (we_tup (wa_nil (wo_r (ne) (⟨_, rfl, wb_t (we_c2 (we_rd rfl (we_cst (wo_r (ix) (wg_set rfl ?_)))))⟩)))))))⟩⟩))))))
      try dsimp only [List.set_cons_succ, List.set_cons_zero]
      exact go _ _ _ (is_piece_any (by decide) (h1 d List.mem_cons_self)) (law_is_piece_any (by decide) (h1 d List.mem_cons_self))
theorem e14_ev {d : D} (hd : okV 6 d = true) {x0 x1 x2 x3 x4 x5 x6 x7 x8 x9 x10 x11 x12 x13 x14 x15 x16 x17 x18 x19 x20 x21 x22 x23 x24 x25 : Option D} : WE e14_law [x0, x1, x2, x3, x4, x5, x6, x7, x8, x9, x10, x11, x12, x13, x14, x15, x16, x17, x18, x19, x20, x21, x22, x23, x24, x25, some d] fun r δ => r = .bool (isInt d) ∧ δ = [x0, x1, x2, x3, x4, x5, x6, x7, x8, x9, x10, x11, x12, x13, x14, x15, x16, x17, x18, x19, x20, x21, x22, x23, x24, x25, some d] := by
  have nd := okV_dic hd
  cases d with
  | int i =>
    refine we_and (we_isi (we_rd rfl (⟨rfl, ⟨_, rfl, wb_t (we_c1 (we_isi (we_rd rfl (⟨rfl, wo_r (rfl) (⟨rfl, rfl⟩)⟩))))⟩⟩)))
  | bool b =>
    refine we_and (we_isi (we_rd rfl (⟨rfl, ⟨_, rfl, wb_t (we_c1 (we_isi (we_rd rfl (⟨rfl, wo_r (rfl) (⟨rfl, rfl⟩)⟩))))⟩⟩)))
  | dict _ => cases nd
  | _ =>
    refine we_and (we_isi (we_rd rfl (⟨rfl, ⟨_, rfl, wb_f (⟨rfl, rfl⟩)⟩⟩)))
set_option maxHeartbeats 1000000 in
theorem b15_ev {v : D} (hv : Gv v) {tp : List D} (hb : BoxOk tp) {x0 x3 x6 x7 x8 x9 x10 x11 x12 x13 x14 x15 x16 x17 x18 x19 x20 x22 x23 x24 x25 x26 : Option D} : WS b15_law [x0, some (.list tp), some kD5, x3, some (encTf t), some (enc8 s), x6, x7, x8, x9, x10, x11, x12, x13, x14, x15, x16, x17, x18, x19, x20, some v, x22, x23, x24, x25, x26] (On (InV t s)) := by
  unfold b15_law
  have tr := is_spot_any hv
  cases hv with
  | non n nd =>
    have e : spV v = false := by cases v <;> first | rfl | cases n
    rw [e] at tr
    have sm := sm_bool false
    cases v with
    | tuple _ => cases n
    | dict _ => cases nd
    | _ =>
      refine ws_if (wt_not (wt_v (we_call (wa_cons (we_call (wa_cons (we_rd rfl (wa_nil (wf_r (tr) (wa_cons (we_and (we_isi (we_rd rfl (⟨rfl, ⟨_, rfl, wb_f (wa_nil (wf_r (sm) (⟨_, rfl, wb_nt (ws_skip (ws_end ⟨_, _, _, _, _, _, _, _, _, _, _, _, _, _, _, _, _, _, _, _, _, _, _, _, rfl, hb⟩))⟩)))⟩⟩))))))))))))))
  | @tup ds h1 h2 =>
    have ll := lenTu ds
    have f : eqD (.int (ds.length : Nat)) (.int 8) = some (.bool (decide (ds.length = 8))) := eqNat ds.length 8
    have al := all_map isInt ds
    have tr : F_is_fine_spot [.tuple ds] = some (.bool (decide (ds.length = 8) && ds.all isInt)) := tr
    cases c : decide (ds.length = 8) with
    | false =>
      rw [c] at f tr
      have tr : F_is_fine_spot [.tuple ds] = some (.bool false) := tr
      have sm := sm_bool false
      refine ws_if (wt_not (wt_v (we_call (wa_cons (we_call (wa_cons (we_rd rfl (wa_nil (wf_r (tr) (wa_cons (we_and (we_isi (we_rd rfl (⟨rfl, ⟨_, rfl, wb_t (we_and (we_c2 (we_call (wa_cons (we_rd rfl (wa_nil (wf_r (ll) (we_cst (wo_r (f) (⟨_, rfl, wb_f (wa_nil (wf_r (sm) (⟨_, rfl, wb_nt (ws_skip (ws_end ⟨_, _, _, _, _, _, _, _, _, _, _, _, _, _, _, _, _, _, _, _, _, _, _, _, rfl, hb⟩))⟩)))⟩))))))))))⟩⟩))))))))))))))
    | true =>
      rw [c] at f tr
      have tr : F_is_fine_spot [.tuple ds] = some (.bool (ds.all isInt)) := tr
      have sm := sm_bool (ds.all isInt)
      refine ws_if (wt_not (wt_v (we_call (wa_cons (we_call (wa_cons (we_rd rfl (wa_nil (wf_r (tr) (wa_cons (we_and (we_isi (we_rd rfl (⟨rfl, ⟨_, rfl, wb_t (we_and (we_c2 (we_call (wa_cons (we_rd rfl (wa_nil (wf_r (ll) (we_cst (wo_r (f) (⟨_, rfl, wb_t (we_call (wa_cons (we_lcm (id : D → D) (ds) ((fun d => .bool (isInt d))) (wa_seq (we_rd rfl (wl_r (rfl) (⟨(List.map_id _).symm, fun a ha => ⟨?_⟩, wa_nil (wf_r (al) (wa_nil (wf_r (sm) (⟨_, rfl, wb_nt (ws_skip (ws_end ⟨_, _, _, _, _, _, _, _, _, _, _, _, _, _, _, _, _, _, _, _, _, _, _, _, rfl, hb⟩))⟩))))⟩)))))))⟩))))))))))⟩⟩))))))))))))))
      refine wg_set rfl ⟨rfl, wt_yes ⟨rfl, rfl, fun _ => ?_⟩⟩
      exact e14_ev (h1 _ ha)
structure Dt (t : List Pf) (s : Sp8) : Prop where
  few : t.length ≤ 10
  sm : ∀ p ∈ t, 1 ≤ p.2 ∧ p.2 ≤ 3
  bd : Bd 60 s
theorem kd_TX (k : Kf) : ∃ x : Str, k.d = .str x ∧ x ∈ TX := by
  cases k
  · exact ⟨"halfleft", rfl, by decide +kernel⟩
  · exact ⟨"halfright", rfl, by decide +kernel⟩
  · exact ⟨"left", rfl, by decide +kernel⟩
  · exact ⟨"right", rfl, by decide +kernel⟩
  · exact ⟨"straight", rfl, by decide +kernel⟩
theorem okJ_F {p : Pf} (h : p.2.natAbs ≤ 100) : okJ 1 (encF p) = true := okJ_tup (n := 0) (fun d hd => by
  simp only [List.mem_cons, List.not_mem_nil, or_false] at hd
  rcases hd with rfl | rfl
  · obtain ⟨x, e, hx⟩ := kd_TX p.1
    rw [e]
    exact decide_eq_true hx
  · exact decide_eq_true h) (by show 2 ≤ 12; decide)
theorem okJ_T (h : Dt t s) : okJ 2 (encTf t) = true := okJ_tup (n := 1) (fun d hd => by
  obtain ⟨p, hp, rfl⟩ := List.mem_map.mp hd
  have := h.sm p hp
  exact okJ_F (by omega)) (by rw [List.length_map]; have := h.few; omega)
theorem okJ_8 (h : Dt t s) : okJ 1 (enc8 s) = true := okJ_tup (n := 0) (fun d hd => by
  obtain ⟨h1, h2, h3, h4, h5, h6, h7, h8⟩ := h.bd
  have hd : d ∈ [PyData.int s.a, .int s.b, .int s.c, .int s.d, .int s.e, .int s.f, .int s.g, .int s.h] := hd
  simp only [List.mem_cons, List.not_mem_nil, or_false] at hd
  have g : ∀ {i : Int}, i.natAbs ≤ 60 → okJ 0 (.int i) = true := fun {i} hi => decide_eq_true (by omega)
  rcases hd with rfl | rfl | rfl | rfl | rfl | rfl | rfl | rfl
  · exact g h1
  · exact g h2
  · exact g h3
  · exact g h4
  · exact g h5
  · exact g h6
  · exact g h7
  · exact g h8) (by show 8 ≤ 12; decide)
theorem bentT (h : Dt t s) {tp : List D} (hb : BoxOk tp) : ∃ r tp', F__law_bent 8 tp [encTf t] = some (r, tp') ∧ okV 7 r = true ∧ BoxOk tp' := by
  obtain ⟨r, tp', e, o, hb'⟩ := bent_ev 2 (encTf t) (okJ_T h) 5 tp hb
  exact ⟨r, tp', e, okV_le o (by decide), hb'⟩
theorem bent8 (h : Dt t s) {tp : List D} (hb : BoxOk tp) : ∃ r tp', F__law_bent 8 tp [enc8 s] = some (r, tp') ∧ okV 7 r = true ∧ BoxOk tp' := by
  obtain ⟨r, tp', e, o, hb'⟩ := bent_ev 1 (enc8 s) (okJ_8 h) 6 tp hb
  exact ⟨r, tp', e, okV_le o (by decide), hb'⟩
def vT (t : List Pf) : List D := [encTf t, .list (t.map encF), (.tuple (List.replicate 30 (t.map encF)).flatten), .tuple [.tuple [.str "left", .int 0]], .tuple [.tuple [.str "left", .int 21]], .tuple [.tuple [.str "right", .bool true]], .tuple [.tuple [.str "halfback", .int 1]], .none, .tuple [], .int 0]
def v8 (s : Sp8) : List D := [enc8 s, .tuple ((s.l.map .int).drop 1), .tuple (s.l.map .int ++ [.int 0]), .tuple (.bool true :: (s.l.map .int).drop 1), .none, .tuple [], .int 0]
end
end Lw
namespace Lw
open PySem hiding Env Run
open Dn Lb
variable [Wd]

section
variable {t : List Pf} {s : Sp8}
theorem pl_cons {P : D → Prop} : ∀ {l : List D}, (∀ d ∈ l, P d) → ∀ {m : List D}, (∀ d ∈ m, P d) → ∀ d ∈ l ++ m, P d := fun h1 _ h2 d hd => (List.mem_append.mp hd).elim (h1 d) (h2 d)
theorem okF (h : Dt t s) : ∀ d ∈ t.map encF, okV 6 d = true := fun d hd => by
  obtain ⟨p, hp, rfl⟩ := List.mem_map.mp hd
  have := h.sm p hp
  exact okV_le (okJ_V 1 _ (okJ_F (by omega))) (by decide)
theorem flat_rep {α : Type} (l : List α) : ∀ n : Nat, ((List.replicate n l).flatten).length = n * l.length
  | 0 => by simp
  | n + 1 => by
    rw [List.replicate_succ, List.flatten_cons, List.length_append, flat_rep l n, Nat.succ_mul]
    omega
theorem vT_ok (h : Dt t s) : ∀ v ∈ vT t, Gv v := by
  have oF := okF h
  have few := h.few
  intro v hv
  simp only [vT, List.mem_cons, List.not_mem_nil, or_false] at hv
  rcases hv with rfl | rfl | rfl | rfl | rfl | rfl | rfl | rfl | rfl | rfl
  · exact .tup oF (by rw [List.length_map]; omega)
  · exact .non rfl rfl
  · refine .tup (fun d hd => ?_) ?_
    · obtain ⟨l, hl, hd⟩ := List.mem_flatten.mp hd
      rw [(List.mem_replicate.mp hl).2] at hd
      exact oF d hd
    · rw [flat_rep, List.length_map]
      omega
  · exact Gv.of (by decide +kernel)
  · exact Gv.of (by decide +kernel)
  · exact Gv.of (by decide +kernel)
  · exact Gv.of (by decide +kernel)
  · exact .non rfl rfl
  · exact Gv.of (by decide +kernel)
  · exact .non rfl rfl
theorem ok8 (h : Dt t s) : ∀ d ∈ s.l.map PyData.int, okV 6 d = true := fun d hd => by
  obtain ⟨i, _, rfl⟩ := List.mem_map.mp hd
  exact okV_int i
theorem v8_ok (h : Dt t s) : ∀ v ∈ v8 s, Gv v := by
  have o8 := ok8 h
  intro v hv
  simp only [v8, List.mem_cons, List.not_mem_nil, or_false] at hv
  have od : ∀ d ∈ (s.l.map PyData.int).drop 1, okV 6 d = true := fun d hd => o8 d (List.mem_of_mem_drop hd)
  rcases hv with rfl | rfl | rfl | rfl | rfl | rfl | rfl
  · exact .tup o8 (by show 8 ≤ 1000; decide)
  · exact .tup od (by show 7 ≤ 1000; decide)
  · refine .tup (pl_cons o8 fun d hd => ?_) (by show 9 ≤ 1000; decide)
    rw [List.mem_singleton.mp hd]
    rfl
  · refine .tup (fun d hd => ?_) (by show 8 ≤ 1000; decide)
    rcases List.mem_cons.mp hd with rfl | hd
    · rfl
    · exact od d hd
  · exact .non rfl rfl
  · exact Gv.of (by decide +kernel)
  · exact .non rfl rfl
theorem mul30 (h : t.length ≤ 10) : mulD (encTf t) (.int 30) = some (.tuple (List.replicate 30 (t.map encF)).flatten) := by
  show (if immutAll (t.map encF) = true ∧ -(2 ^ 63) ≤ (30 : Int) ∧ (30 : Int) < 2 ^ 63 ∧ (t.map encF).length * ((30 : Int)).toNat ≤ sizeLine then some (PyData.tuple (List.replicate ((30 : Int)).toNat (t.map encF)).flatten) else none) = _
  rw [if_pos ⟨imm_map encF imF t, by omega, by omega, by
    rw [List.length_map]
    show t.length * 30 ≤ 16777216
    omega⟩]
  rfl
theorem cat_L {a b : List D} (h : a.length + b.length ≤ 1000) : catF (.list a) (.list b) = some (.list (a ++ b)) := by
  show (if a.length + b.length ≤ sizeLine then some (PyData.list (a ++ b)) else none) = _
  rw [if_pos]
  show _ ≤ 16777216
  omega
set_option maxHeartbeats 2000000 in
theorem w23_ev (d : Dt t s) {δ : Env} (h : InV t s δ) : WS (seqS (forS (seqI (c2 catF (lstV (aCons (rd 5) (aCons (slV (rd 5) (ptOf (cst (.int 1))) noPt) (aCons (c2 addD (rd 5) (tupV (aCons (cst (.int 0)) aNil))) (aCons (c2 addD (tupV (aCons (cst (.bool true)) aNil)) (slV (rd 5) (ptOf (cst (.int 1))) noPt)) (aCons (cst .none) (aCons (tupV aNil) (aCons (cst (.int 0)) aNil)))))))) (lcV (rgV rg1 (aCons (cst (.int 3)) aNil)) (stS 25) [25] yesT e13_law))) (stS 21) b15_law) skip) δ (On Inv27) := by
  obtain ⟨tp, x0, x3, x6, x7, x8, x9, x10, x11, x12, x13, x14, x15, x16, x17, x18, x19, x20, x21, x22, x23, x24, x25, x26, rfl, hb⟩ := h
  have s1 : slD (enc8 s) (some 1) none = some (.tuple ((s.l.map .int).drop 1)) := by
    show slD (.tuple (s.l.map .int)) _ _ = _
    rw [slD_tuple (by rfl)]
    exact congrArg (fun l => some (PyData.tuple l)) (cut_drop (s.l.map .int) 1)
  have a1 : addD (enc8 s) (.tuple [.int 0]) = some (.tuple (s.l.map .int ++ [.int 0])) := rfl
  have a2 : addD (.tuple [.bool true]) (.tuple ((s.l.map .int).drop 1)) = some (.tuple (.bool true :: (s.l.map .int).drop 1)) := rfl
  refine ws_forI (InV t s) (wa_seq (we_c2 ?_))
  refine we_lst (wa_cons (we_rd rfl (wa_cons (we_sl (we_rd rfl (wp_of (we_cst ⟨_, rfl, wp_no (wo_r s1 ?_)⟩)))))))
  refine wa_cons (we_c2 (we_rd rfl (we_tup (wa_cons (we_cst (wa_nil (wo_r a1 ?_)))))))
  refine wa_cons (we_c2 (we_tup (wa_cons (we_cst (wa_nil (we_sl (we_rd rfl (wp_of (we_cst ⟨_, rfl, wp_no (wo_r s1 (wo_r a2 ?_))⟩)))))))))
  refine wa_cons (we_cst (wa_cons (we_tup (wa_nil (wa_cons (we_cst (wa_nil ?_)))))))
  refine we_lcd (fun d : D => d) (fun d => okV 7 d = true) (fun δ => ∃ tp y25, BoxOk tp ∧ δ = [x0, some (.list tp), some kD5, x3, some (encTf t), some (enc8 s), x6, x7, x8, x9, x10, x11, x12, x13, x14, x15, x16, x17, x18, x19, x20, x21, x22, x23, x24, y25, x26]) (wa_rg (wa_cons (we_cst (wa_nil (wl_r (rg1_nat (n := 3) (by decide)) ⟨⟨tp, x25, hb, rfl⟩, ?_, ?_⟩)))))
  · rintro x hx _ ⟨tp, y25, hb, rfl⟩
    refine wg_set rfl ?_
    unfold e13_law
    obtain ⟨r, tp', er, hr, hb'⟩ := bent8 d hb
    exact we_io rfl (wa_cons (we_rd rfl (wa_nil ⟨_, _, _, rfl, er, r, rfl, hr, tp', some x, hb', rfl⟩)))
  rintro l _ ⟨tp, y25, hb, rfl⟩ hl2 hn
  rw [List.length_map, List.length_range] at hn
  show WO _ _
  rw [List.map_id']
  refine wo_r (show _ = some (PyData.list (v8 s ++ l)) from cat_L (by rw [hn]; show 7 + 3 ≤ _; decide)) ?_
  refine wl_r rfl ⟨⟨tp, _, _, _, _, _, _, _, _, _, _, _, _, _, _, _, _, _, _, _, _, _, _, _, rfl, hb⟩, ?_, ?_⟩
  · rintro v hv _ ⟨tp, x0, x3, x6, x7, x8, x9, x10, x11, x12, x13, x14, x15, x16, x17, x18, x19, x20, x21, x22, x23, x24, x25, x26, rfl, hb⟩
    refine wg_set rfl ?_
    exact b15_ev (pl_cons (v8_ok d) (fun x hx => Gv.of (hl2 x hx)) v hv) hb
  · rintro _ ⟨tp, x0, x3, x6, x7, x8, x9, x10, x11, x12, x13, x14, x15, x16, x17, x18, x19, x20, x21, x22, x23, x24, x25, x26, rfl, hb⟩
    exact ws_end ⟨tp, _, _, _, _, _, _, _, _, _, _, _, _, _, _, _, _, _, _, _, _, _, _, _, _, _, rfl, hb⟩
set_option maxHeartbeats 2000000 in
theorem w22_ev (d : Dt t s) {δ : Env} (h : InV t s δ) : WS w22 δ (On Inv27) := by
  obtain ⟨tp, x0, x3, x6, x7, x8, x9, x10, x11, x12, x13, x14, x15, x16, x17, x18, x19, x20, x21, x22, x23, x24, x25, x26, rfl, hb⟩ := h
  unfold w22
  have li : listD [encTf t] = some (.list (t.map encF)) := by
    show (if immutAll (t.map encF) = true then some (PyData.list (t.map encF)) else none) = _
    rw [if_pos (imm_map encF imF t)]
  have mu := mul30 d.few
  refine ws_forI (InV t s) (wa_seq (we_c2 ?_))
  refine we_lst (wa_cons (we_rd rfl (wa_cons (we_call (wa_cons (we_rd rfl (wa_nil (wf_r li (wa_cons (we_c2 (we_rd rfl (we_cst (wo_r mu ?_)))))))))))))
  refine wa_cons (we_tup (wa_cons (we_tup (wa_cons (we_cst (wa_cons (we_cst (wa_nil (wa_nil ?_)))))))))
  refine wa_cons (we_tup (wa_cons (we_tup (wa_cons (we_cst (wa_cons (we_cst (wa_nil (wa_nil ?_)))))))))
  refine wa_cons (we_tup (wa_cons (we_tup (wa_cons (we_cst (wa_cons (we_cst (wa_nil (wa_nil ?_)))))))))
  refine wa_cons (we_tup (wa_cons (we_tup (wa_cons (we_cst (wa_cons (we_cst (wa_nil (wa_nil ?_)))))))))
  refine wa_cons (we_cst (wa_cons (we_tup (wa_nil (wa_cons (we_cst (wa_nil ?_)))))))
  refine we_lcd (fun d : D => d) (fun d => okV 7 d = true) (fun δ => ∃ tp y25, BoxOk tp ∧ δ = [x0, some (.list tp), some kD5, x3, some (encTf t), some (enc8 s), x6, x7, x8, x9, x10, x11, x12, x13, x14, x15, x16, x17, x18, x19, x20, x21, x22, x23, x24, y25, x26]) (wa_rg (wa_cons (we_cst (wa_nil (wl_r (rg1_nat (n := 4) (by decide)) ⟨⟨tp, x25, hb, rfl⟩, ?_, ?_⟩)))))
  · rintro x hx _ ⟨tp, y25, hb, rfl⟩
    refine wg_set rfl ?_
    unfold e10_law
    obtain ⟨r, tp', er, hr, hb'⟩ := bentT d hb
    exact we_io rfl (wa_cons (we_rd rfl (wa_nil ⟨_, _, _, rfl, er, r, rfl, hr, tp', some x, hb', rfl⟩)))
  rintro l _ ⟨tp, y25, hb, rfl⟩ hl2 hn
  rw [List.length_map, List.length_range] at hn
  show WO _ _
  rw [List.map_id']
  refine wo_r (show _ = some (PyData.list (vT t ++ l)) from cat_L (by rw [hn]; show 10 + 4 ≤ _; decide)) ?_
  refine wl_r rfl ⟨⟨tp, _, _, _, _, _, _, _, _, _, _, _, _, _, _, _, _, _, _, _, _, _, _, _, rfl, hb⟩, ?_, ?_⟩
  · rintro v hv _ ⟨tp, x0, x3, x6, x7, x8, x9, x10, x11, x12, x13, x14, x15, x16, x17, x18, x19, x20, x21, x22, x23, x24, x25, x26, rfl, hb⟩
    refine wg_set rfl ?_
    exact b12_ev (pl_cons (vT_ok d) (fun x hx => Gv.of (hl2 x hx)) v hv) hb
  · rintro _ ⟨tp, x0, x3, x6, x7, x8, x9, x10, x11, x12, x13, x14, x15, x16, x17, x18, x19, x20, x21, x22, x23, x24, x25, x26, rfl, hb⟩
    exact w23_ev d ⟨tp, _, _, _, _, _, _, _, _, _, _, _, _, _, _, _, _, _, _, _, _, _, _, _, rfl, hb⟩
def InR (t : List Pf) (s : Sp8) (b : Bool) (n : Int) (pre : List Nat) (δ : Env) : Prop := ∃ tp r, ∃ left : Nat, ∃ x0 x3 x6 x7 x8 x9 x10 x11 x12 x13 x14 x15 x20 x21 x22 x23 x24 x25 x26, δ = [x0, some (.list tp), some kD5, x3, some (encTf t), some (enc8 s), x6, x7, x8, x9, x10, x11, x12, x13, x14, x15, some (.int n), some (whK b).d, some (.list (r.map encF)), some (.int (left : Nat)), x20, x21, x22, x23, x24, x25, x26] ∧ Rd b n left r ∧ left + pre.length ≤ 16 ∧ r.length ≤ pre.length ∧ BoxOk tp
theorem half_ev (b : Bool) : addD (.str "half") (whK b).d = some (haK b).d := by cases b <;> kernel_rfl
set_option maxHeartbeats 2000000 in
theorem b9_ev {b : Bool} {n : Int} {pre : List Nat} {k : Nat} (hk : pre.length < 16) {δ : Env} (h : InR t s b n pre δ) : WS b9_law (δ.set 20 (some (.int (k : Nat)))) (On (InR t s b n (pre ++ [k]))) := by
  obtain ⟨tp, r, left, x0, x3, x6, x7, x8, x9, x10, x11, x12, x13, x14, x15, x20, x21, x22, x23, x24, x25, x26, rfl, hR, hl, hr, hb⟩ := h
  try dsimp only [List.set_cons_succ, List.set_cons_zero]
  unfold b9_law
  have pl : (pre ++ [k]).length = pre.length + 1 := by rw [List.length_append, List.length_singleton]
  have adw : addD (.list (r.map encF)) (.list [.tuple [(whK b).d, .int n]]) = some (.list ((r ++ [(whK b, n)]).map encF)) := by
    rw [List.map_append]
    exact addLi (imm_map encF imF r) (imm_map encF imF [(whK b, n)]) (by rw [List.length_map]; simp; omega)
  have adh : addD (.list (r.map encF)) (.list [.tuple [(haK b).d, .int n]]) = some (.list ((r ++ [(haK b, n)]).map encF)) := by
    rw [List.map_append]
    exact addLi (imm_map encF imF r) (imm_map encF imF [(haK b, n)]) (by rw [List.length_map]; simp; omega)
  have half : 0 < left → ∀ tp, BoxOk tp → ∀ x0 x3 x6 x7 x8 x9 x10 x11 x12 x13 x14 x15 x20 x21 x22 x23 x24 x25 x26 : Option D, WS (seqS (ifS (tstB (c2 gtD (rd 19) (cst (.int 0)))) (seqS (par2S 18 19 (c2 addD (rd 18) (lstV (aCons (tupV (aCons (c2 addD (cst (.str "half")) (rd 17)) (aCons (rd 16) aNil))) aNil))) (c2 subD (rd 19) (cst (.int 1)))) skip) skip) (seqS skip skip)) [x0, some (.list tp), some kD5, x3, some (encTf t), some (enc8 s), x6, x7, x8, x9, x10, x11, x12, x13, x14, x15, some (.int n), some (whK b).d, some (.list (r.map encF)), some (.int (left : Nat)), x20, x21, x22, x23, x24, x25, x26] (On (InR t s b n (pre ++ [k]))) := by
    intro h0 tp hb x0 x3 x6 x7 x8 x9 x10 x11 x12 x13 x14 x15 x20 x21 x22 x23 x24 x25 x26
    have g0 : gtD (.int (left : Nat)) (.int 0) = some (.bool true) := by rw [gtD_int, decide_eq_true (by omega)]
    have su : subD (.int (left : Nat)) (.int 1) = some (.int ((left - 1 : Nat) : Int)) := by
      rw [subD_int]
      congr 2
      omega
    have hv := half_ev b
    refine ws_if (wt_b (we_c2 (we_rd rfl (we_cst (wo_r g0 ⟨_, rfl, wb_t ?_⟩)))))
    refine ws_assoc (ws_par2 (we_c2 (we_rd rfl (we_lst (wa_cons (we_tup (wa_cons (we_c2 (we_cst (we_rd rfl (wo_r hv (wa_cons (we_rd rfl (wa_nil (wa_nil (wo_r adh (we_c2 (we_rd rfl (we_cst (wo_r su (wg_set rfl (wg_set rfl (ws_skip (ws_skip ?_))))))))))))))))))))))))
    exact ws_end ⟨tp, r ++ [(haK b, n)], left - 1, _, _, _, _, _, _, _, _, _, _, _, _, _, _, _, _, _, _, _, rfl, hR.ha h0, by rw [pl]; omega, by rw [pl, List.length_append, List.length_singleton]; omega, hb⟩
  by_cases c1 : 1 < left
  · have g1 : gtD (.int (left : Nat)) (.int 1) = some (.bool true) := by rw [gtD_int, decide_eq_true (by omega)]
    have su : subD (.int (left : Nat)) (.int 2) = some (.int ((left - 2 : Nat) : Int)) := by
      rw [subD_int]
      congr 2
      omega
    refine ws_if (wt_and (wt_b (we_c2 (we_rd rfl (we_cst (wo_r g1 ⟨_, rfl, wb_t ?_⟩))))))
    refine wt_b (we_c2 (we_draw (n := 3) rfl hb (by decide) (by decide) (fun d tp d0 d1 hb => we_cst (wo_r (eqD_int _ _) ⟨_, rfl, ?_⟩)) rfl))
    by_cases c2' : d = 0
    · refine wb_of (c := true) (decide_eq_true c2') (wb_t ?_)
      refine ws_assoc (ws_par2 (we_c2 (we_rd rfl (we_lst (wa_cons (we_tup (wa_cons (we_rd rfl (wa_cons (we_rd rfl (wa_nil (wa_nil (wo_r adw (we_c2 (we_rd rfl (we_cst (wo_r su (wg_set rfl (wg_set rfl (ws_skip ?_))))))))))))))))))))
      exact ws_end ⟨tp, r ++ [(whK b, n)], left - 2, _, _, _, _, _, _, _, _, _, _, _, _, _, _, _, _, _, _, _, rfl, hR.wh c1, by rw [pl]; omega, by rw [pl, List.length_append, List.length_singleton]; omega, hb⟩
    · refine wb_of (c := false) (decide_eq_false c2') (wb_f ?_)
      exact ws_assoc (half (by omega) tp hb _ _ _ _ _ _ _ _ _ _ _ _ _ _ _ _ _ _ _)
  · have g1 : gtD (.int (left : Nat)) (.int 1) = some (.bool false) := by rw [gtD_int, decide_eq_false (by omega)]
    refine ws_if (wt_and (wt_b (we_c2 (we_rd rfl (we_cst (wo_r g1 ⟨_, rfl, wb_f (wb_f ?_)⟩))))))
    by_cases c0 : 0 < left
    · exact ws_assoc (half c0 tp hb _ _ _ _ _ _ _ _ _ _ _ _ _ _ _ _ _ _ _)
    · have g0 : gtD (.int (left : Nat)) (.int 0) = some (.bool false) := by rw [gtD_int, decide_eq_false (by omega)]
      refine ws_assoc (ws_if (wt_b (we_c2 (we_rd rfl (we_cst (wo_r g0 ⟨_, rfl, wb_f (ws_skip (ws_skip ?_))⟩))))))
      exact ws_end ⟨tp, r, left, _, _, _, _, _, _, _, _, _, _, _, _, _, _, _, _, _, _, _, rfl, hR, by rw [pl]; omega, by rw [pl]; omega, hb⟩
end
end Lw
namespace Lw
open PySem hiding Env Run
open Dn Lb
variable [Wd]

section
variable {t : List Pf} {s : Sp8}
theorem side_at {e : Int} (h0 : 0 ≤ e) (h1 : e < 2) : ∃ b : Bool, ixD (.list [.str "left", .str "right"]) (.int e) = some (whK b).d := by
  have : e = 0 ∨ e = 1 := by omega
  rcases this with rfl | rfl
  · exact ⟨true, rfl⟩
  · exact ⟨false, rfl⟩
set_option maxHeartbeats 2000000 in
theorem w18_ev (d : Dt t s) {δ : Env} (h : InV t s δ) : WS w18 δ (On Inv27) := by
  obtain ⟨tp, x0, x3, x6, x7, x8, x9, x10, x11, x12, x13, x14, x15, x16, x17, x18, x19, x20, x21, x22, x23, x24, x25, x26, rfl, hb⟩ := h
  unfold w18
  refine ws_par3 (we_c2 (we_cst (we_draw (n := 4) rfl hb (by decide) (by decide) (fun c tp c0 c1 hb => wo_r (addD_int _ _) ?_) rfl)))
  refine we_c2 (we_lst (wa_cons (we_cst (wa_cons (we_cst (wa_nil (we_draw (n := 2) rfl hb (by decide) (by decide) (fun e tp e0 e1 hb => ?_) rfl)))))))
  obtain ⟨b, eb⟩ := side_at e0 e1
  refine wo_r eb (we_lst (wa_nil (wg_set rfl (wg_set rfl (wg_set rfl ?_)))))
  try dsimp only [List.set_cons_succ, List.set_cons_zero]
  refine ws_asg (we_cst (wg_set rfl ?_))
  try dsimp only [List.set_cons_succ, List.set_cons_zero]
  refine ws_forP (fun k : Nat => (.int (k : Nat) : D)) (List.range 16) (fun pre δ => InR t s b (1 + c) pre δ) (wa_rg (wa_cons (we_cst (wa_nil (wl_r (rg1_nat (n := 16) (by decide)) ⟨rfl, ⟨tp, [], 16, _, _, _, _, _, _, _, _, _, _, _, _, _, _, _, _, _, _, _, rfl, Rd.nil b _, Nat.le_refl _, Nat.le_refl _, hb⟩, ?_, ?_⟩)))))
  · rintro pre k post _ hpre ⟨tp, r, left, x0, x3, x6, x7, x8, x9, x10, x11, x12, x13, x14, x15, x20, x21, x22, x23, x24, x25, x26, rfl, hR, hl, hr, hb⟩
    obtain ⟨hk, hk2⟩ := rng_at hpre
    exact wg_set rfl (b9_ev (by omega) ⟨tp, r, left, _, _, _, _, _, _, _, _, _, _, _, _, _, _, _, _, _, _, _, rfl, hR, hl, hr, hb⟩)
  · rintro _ ⟨tp, r, left, x0, x3, x6, x7, x8, x9, x10, x11, x12, x13, x14, x15, x20, x21, x22, x23, x24, x25, x26, rfl, hR, hl, hr, hb⟩
    rw [List.length_range] at hl hr
    have e0 : left = 0 := by omega
    subst e0
    have tu := tup_F r
    have d1 := dfc_eq r (by omega)
    rw [closB_t (rd_close hR) (rd_ne hR)] at d1
    have sl : slD (.list (r.map encF)) (some 1) none = some (.list ((r.drop 1).map encF)) := by
      rw [slD_list (imm_map encF imF r)]
      have := cut_drop (r.map encF) 1
      rw [← List.map_drop] at this
      exact congrArg (fun l => some (PyData.list l)) this
    have tu2 := tup_F (r.drop 1)
    have d2 := dfc_eq (r.drop 1) (by rw [List.length_drop]; omega)
    rw [closB_f (rd_tail hR)] at d2
    have ad : addD (encTf r) (.tuple [.tuple [.str "straight", .int 1]]) = some (encTf (r ++ [(.s, 1)])) := by
      have := addTu (imm_map encF imF r) (imm_map encF imF [(.s, 1)]) (by rw [List.length_map]; simp; omega)
      rw [← List.map_append] at this
      exact this
    have d3 := dfc_eq (r ++ [(.s, 1)]) (by rw [List.length_append]; simp; omega)
    rw [closB_f (op_round (rd_close hR))] at d3
    refine ws_if (wt_or (wt_b (we_c2 (we_call (wa_cons (we_call (wa_cons (we_rd rfl (wa_nil (wf_r (tu) (wa_nil (wf_r (d1) (we_cst (wo_r (rfl) (⟨_, rfl, wb_f (wt_or (wt_b (we_c2 (we_call (wa_cons (we_call (wa_cons (we_sl (we_rd rfl (wp_of (we_cst (⟨_, rfl, wp_no (wo_r (sl) (wa_nil (wf_r (tu2) (wa_nil (wf_r (d2) (we_cst (wo_r (rfl) (⟨_, rfl, wb_f (wt_b (we_c2 (we_call (wa_cons (we_c2 (we_call (wa_cons (we_rd rfl (wa_nil (wf_r (tu) (we_tup (wa_cons (we_tup (wa_cons (we_cst (wa_cons (we_cst (wa_nil (wa_nil (wo_r (ad) (wa_nil (wf_r (d3) (we_cst (wo_r (rfl) (⟨_, rfl, wb_f (ws_skip ?_)⟩)))))))))))))))))))))))))⟩))))))))⟩))))))))))))⟩)))))))))))))))
    exact w22_ev d ⟨tp, _, _, _, _, _, _, _, _, _, _, _, _, _, _, _, _, _, _, _, _, _, _, _, rfl, hb⟩
theorem to_Pc : ∀ {e : List Pf}, (∀ p ∈ e, Dp [.l, .r, .s] p) → ∃ T : List Pc, e = T.map pf
  | [], _ => ⟨[], rfl⟩
  | p :: e, h => by
    obtain ⟨T, rfl⟩ := to_Pc (e := e) fun q hq => h q (List.mem_cons_of_mem _ hq)
    obtain ⟨k, n⟩ := p
    have hk := (h (k, n) List.mem_cons_self).1
    simp only [List.mem_cons, List.not_mem_nil, or_false] at hk
    rcases hk with rfl | rfl | rfl
    · exact ⟨(.L, n) :: T, rfl⟩
    · exact ⟨(.R, n) :: T, rfl⟩
    · exact ⟨(.S, n) :: T, rfl⟩
theorem enc_pf (T : List Pc) : encTf (T.map pf) = encTr T := by
  unfold encTf encTr
  rw [List.map_map]
  exact congrArg PyData.tuple (List.map_congr_left fun p _ => encF_pf p)
theorem closB_pf (T : List Pc) : closB (T.map pf) = (decide (T ≠ []) && decide (go o0 T = o0)) := by
  unfold closB
  congr 1
  · exact decide_eq_decide.mpr (by rw [ne_eq, List.map_eq_nil_iff])
  · exact decide_eq_decide.mpr (clF_pf T)
set_option maxHeartbeats 2000000 in
theorem w15_ev (d : Dt t s) {δ : Env} (h : InV t s δ) : WS w15 δ (On Inv27) := by
  obtain ⟨tp, x0, x3, x6, x7, x8, x9, x10, x11, x12, x13, x14, x15, x16, x17, x18, x19, x20, x21, x22, x23, x24, x25, x26, rfl, hb⟩ := h
  unfold w15
  obtain ⟨e, tp', et, he, le, hb'⟩ := track_ev hb [.l, .r, .s] (by decide) (by decide) 8 (by decide)
  obtain ⟨T, rfl⟩ := to_Pc he
  rw [List.length_map] at le
  have f1 := fp_o (T.map pf)
  have f2 := dfc_eq (T.map pf) (by rw [List.length_map]; omega)
  rw [enc_pf] at et f1 f2
  refine ws_asg (we_io rfl (wa_cons (we_cst (wa_cons (we_lst (wa_cons (we_cst (wa_cons (we_cst (wa_cons (we_cst (wa_nil (wa_nil ⟨_, _, _, rfl, et, wg_set rfl ?_⟩)))))))))))))
  try dsimp only [List.set_cons_succ, List.set_cons_zero]
  have po : F_pose_after [.tuple [.tuple [.int 0, .int 0, .int 0, .int 0], .int 0], encTr T] = some (encPo (go o0 T)) := pose_after_eq o0 T (by omega)
  have ic := is_closed_eq T (by omega)
  rw [dp_pf, ts_pf] at f1
  rw [closB_pf] at f2
  have sp := spot_of_eq (go o0 T).1
  have i0 : ixD (encPo (go o0 T)) (.int 0) = some (encS (go o0 T).1) := ixT0 _ _
  have i1 : ixD (encPo (go o0 T)) (.int 1) = some (.int (go o0 T).2) := ixT1 _ _ _
  have mu : mulD (.int 2) (.int (go o0 T).2) = some (.int (2 * (go o0 T).2)) := mulD_int (.inl (by decide))
  have sm : F__law_same 8 [encQ (fsp (disp T), 2 * tsum T % 16), .tuple [enc8 (fsp (go o0 T).1), .int (2 * (go o0 T).2)]] = some (.bool true) := by
    have e : (.tuple [enc8 (fsp (go o0 T).1), .int (2 * (go o0 T).2)] : D) = encQ (fsp (disp T), 2 * tsum T % 16) := by
      rw [go_o0]
      show PyData.tuple [enc8 (fsp (disp T)), .int (2 * (tsum T % 8))] = PyData.tuple [enc8 (fsp (disp T)), .int (2 * tsum T % 16)]
      rw [show 2 * (tsum T % 8) = 2 * tsum T % 16 by omega]
    rw [e]
    exact sm_ok (Gd.t2 (gd_8 0 _) (.int _)).ok (by decide)
  have ne := neD_bool (decide (T ≠ []) && decide (go o0 T = o0)) (decide (T ≠ []) && decide (go o0 T = o0))
  rw [decide_eq_true rfl] at ne
  refine ws_asg (we_call (wa_cons (we_tup (wa_cons (we_tup (wa_cons (we_cst (wa_cons (we_cst (wa_cons (we_cst (wa_cons (we_cst (wa_nil (wa_cons (we_cst (wa_nil (wa_cons (we_rd rfl (wa_nil (wf_r (po) (wg_set rfl (ws_if (wt_or (wt_not (wt_v (we_call (wa_cons (we_call (wa_cons (we_tup (wa_cons (we_cst (wa_cons (we_cst (wa_nil (wa_cons (we_rd rfl (wa_nil (wf_r (f1) (wa_cons (we_tup (wa_cons (we_call (wa_cons (we_c2 (we_rd rfl (we_cst (wo_r (i0) (wa_nil (wf_r (sp) (wa_cons (we_c2 (we_cst (we_c2 (we_rd rfl (we_cst (wo_r (i1) (wo_r (mu) (wa_nil (wa_nil (wf_r (sm) (⟨_, rfl, wb_nt (wt_b (we_c2 (we_call (wa_cons (we_rd rfl (wa_nil (wf_r (f2) (we_call (wa_cons (we_rd rfl (wa_nil (wf_r (ic) (wo_r (ne) (⟨_, rfl, wb_f (ws_skip ?_)⟩))))))))))))))⟩)))))))))))))))))))))))))))))))))))))))))))))))))))))))))))))))
  try dsimp only [List.set_cons_succ, List.set_cons_zero]
  exact w18_ev d ⟨tp', _, _, _, _, _, _, _, _, _, _, _, _, _, _, _, _, _, _, _, _, _, _, _, rfl, hb'⟩
def oD : D := .dict [(.str "halfleft", .str "halfright"), (.str "halfright", .str "halfleft"), (.str "left", .str "right"), (.str "right", .str "left"), (.str "straight", .str "straight")]
theorem disp_o (δ : Env) : dispV (pCons (cst (.str "halfleft")) (cst (.str "halfright")) (pCons (cst (.str "halfright")) (cst (.str "halfleft")) (pCons (cst (.str "left")) (cst (.str "right")) (pCons (cst (.str "right")) (cst (.str "left")) (pCons (cst (.str "straight")) (cst (.str "straight")) pNil))))) δ = some (oD, δ) := by kernel_rfl
theorem ix_o (k : Kf) : ixD oD k.d = some (mk k).d := by cases k <;> kernel_rfl
theorem rv0_8 (s : Sp8) : rv0D (enc8 s) = some (.tuple ([s.h, s.g, s.f, s.e, s.d, s.c, s.b].map .int)) := rfl
theorem neg7 (s : Sp8) : tupleD [.list ([s.h, s.g, s.f, s.e, s.d, s.c, s.b].map fun i => .int (-i))] = some (.tuple [.int (-s.h), .int (-s.g), .int (-s.f), .int (-s.e), .int (-s.d), .int (-s.c), .int (-s.b)]) := rfl
theorem seen8 (s : Sp8) : addD (.tuple [.int s.a]) (.tuple [.int (-s.h), .int (-s.g), .int (-s.f), .int (-s.e), .int (-s.d), .int (-s.c), .int (-s.b)]) = some (enc8 (cj s)) := rfl
theorem z8 : mulD (.tuple [.int 0]) (.int 8) = some (enc8 Sp8.z) := by kernel_rfl
theorem sm_Q (q : Pof) : F__law_same 8 [encQ q, encQ q] = some (.bool true) := sm_ok (Gd.t2 (gd_8 0 _) (.int _)).ok (by decide)
set_option maxHeartbeats 2000000 in
theorem w8_ev (d : Dt t (dpF t)) {tp : List D} (hb : BoxOk tp) {x0 x3 x7 x8 x9 x10 x11 x12 x13 x14 x15 x16 x17 x18 x19 x20 x21 x22 x23 x24 x25 x26 : Option D} : WS w8 [x0, some (.list tp), some kD5, x3, some (encTf t), some (enc8 (dpF t)), some (.int (tsF t % 16)), x7, x8, x9, x10, x11, x12, x13, x14, x15, x16, x17, x18, x19, x20, x21, x22, x23, x24, x25, x26] (On Inv27) := by
  unfold w8
  have few := d.few
  refine ws_asg ⟨oD, _, disp_o _, wg_set rfl ?_⟩
  try dsimp only [List.set_cons_succ, List.set_cons_zero]
  have eM : (t.map mirF).map encF = t.map fun p => encF (mirF p) := by rw [List.map_map]; rfl
  have tM : tupleD [.list (t.map fun p => encF (mirF p))] = some (encTf (t.map mirF)) := by rw [← eM]; exact tup_F _
  have f1 := mir_eq t
  have f2 := back_eq t
  have rv := rev_F (t.map mirF)
  have eB : encTf (t.map mirF).reverse = encTf (bkF t) := by unfold bkF; rw [List.map_reverse]
  rw [eB] at rv
  have sm1 : F__law_same 8 [.tuple [encTf (t.map mirF), encTf (bkF t), encTf (t.map mirF)], .tuple [encTf (t.map mirF), encTf (bkF t), encTf (t.map mirF)]] = some (.bool true) := by
    have g1 : Gd 2 (encTf (t.map mirF)) := gd_Tf 0 _ (by rw [List.length_map]; omega)
    have g2 : Gd 2 (encTf (bkF t)) := gd_Tf 0 _ (by unfold bkF; rw [List.length_map, List.length_reverse]; omega)
    exact sm_ok (Gd.t3 g1 g2 g1).ok (by decide)
  have i0 : ixD (enc8 (dpF t)) (.int 0) = some (.int (dpF t).a) := atI_nat (i := 0) rfl
  have f3 := fp_o (t.map mirF)
  rw [dp_mir, ts_mir] at f3
  have ng : negD (.int (tsF t % 16)) = some (.int (-(tsF t % 16))) := rfl
  have dv : fdivD (.int (-(tsF t % 16))) (.int 16) = some (.int (-(tsF t % 16) / 16)) := fdivD_pos (by decide) (by decide)
  have mu : mulD (.int (-(tsF t % 16) / 16)) (.int 16) = some (.int (-(tsF t % 16) / 16 * 16)) := mulD_int (.inr (by decide))
  have su : subD (.int (-(tsF t % 16))) (.int (-(tsF t % 16) / 16 * 16)) = some (.int (-tsF t % 16)) := by
    have e1 : -(tsF t % 16) - -(tsF t % 16) / 16 * 16 = -tsF t % 16 := by omega
    rw [subD_int, e1]
  have sm2 := sm_Q (cj (dpF t), -tsF t % 16)
  have a8 : addD (.int (tsF t % 16)) (.int 8) = some (.int (tsF t % 16 + 8)) := addD_int _ _
  have dv2 : fdivD (.int (tsF t % 16 + 8)) (.int 16) = some (.int ((tsF t % 16 + 8) / 16)) := fdivD_pos (by decide) (by decide)
  have mu2 : mulD (.int ((tsF t % 16 + 8) / 16)) (.int 16) = some (.int ((tsF t % 16 + 8) / 16 * 16)) := mulD_int (.inr (by decide))
  have su2 : subD (.int (tsF t % 16 + 8)) (.int ((tsF t % 16 + 8) / 16 * 16)) = some (.int ((tsF t + 8) % 16)) := by
    have e1 : tsF t % 16 + 8 - (tsF t % 16 + 8) / 16 * 16 = (tsF t + 8) % 16 := by omega
    rw [subD_int, e1]
  have f4 := fp_at (dpF t) ((tsF t + 8) % 16) (by omega) (by omega) (bkF t)
  rw [turn8_congr (k := (tsF t + 8) % 16) (j := tsF t + 8) (by omega), home, ts_bk, show ((tsF t + 8) % 16 + -tsF t) % 16 = 8 by omega] at f4
  have f4 : F_fine_pose_after [.tuple [enc8 (dpF t), .int ((tsF t + 8) % 16)], encTf (bkF t)] = some (encQ (Sp8.z, 8)) := f4
  have sm3 : F__law_same 8 [encQ (Sp8.z, 8), .tuple [enc8 Sp8.z, .int 8]] = some (.bool true) := sm_Q (Sp8.z, 8)
  refine ws_asg (we_call (wa_cons (we_lcm (encF) (t) ((fun p => encF (mirF p))) (wa_seq (we_rd rfl (wl_r (rfl) (⟨rfl, fun a ha => ⟨?_⟩, wa_nil (wf_r (tM) (wg_set rfl (ws_if (wt_not (wt_v (we_call (wa_cons (we_tup (wa_cons (we_call (wa_cons (we_rd rfl (wa_nil (wf_r (f1) (wa_cons (we_call (wa_cons (we_rd rfl (wa_nil (wf_r (f2) (wa_cons (we_call (wa_cons (we_lcm (encF) (t) ((fun p => encF (mirF p))) (wa_seq (we_rd rfl (wl_r (rfl) (⟨rfl, fun a ha => ⟨?_⟩, wa_nil (wf_r (tM) (wa_nil (wa_cons (we_tup (wa_cons (we_rd rfl (wa_cons (we_rv (we_rd rfl (wo_r (rv) (wa_cons (we_rd rfl (wa_nil (wa_nil (wf_r (sm1) (⟨_, rfl, wb_nt (ws_skip (ws_asg (we_c2 (we_tup (wa_cons (we_c2 (we_rd rfl (we_cst (wo_r (i0) (wa_nil (we_call (wa_cons (we_lcm ((fun i : Int => (.int i : D))) ([(dpF t).h, (dpF t).g, (dpF t).f, (dpF t).e, (dpF t).d, (dpF t).c, (dpF t).b]) ((fun i => .int (-i))) (wa_seq (we_c1 (we_rd rfl (wo_r (rv0_8 _) (wl_r (rfl) (⟨rfl, fun a ha => ⟨?_⟩, wa_nil (wf_r (neg7 _) (wo_r (seen8 _) (wg_set rfl (ws_if (wt_not (wt_v (we_call (wa_cons (we_call (wa_cons (we_tup (wa_cons (we_cst (wa_cons (we_cst (wa_nil (wa_cons (we_rd rfl (wa_nil (wf_r (f3) (wa_cons (we_tup (wa_cons (we_rd rfl (wa_cons (we_c2 (we_c1 (we_rd rfl (wo_r (ng) (we_c2 (we_c2 (we_c1 (we_rd rfl (wo_r (ng) (we_cst (wo_r (dv) (we_cst (wo_r (mu) (wo_r (su) (wa_nil (wa_nil (wf_r (sm2) (⟨_, rfl, wb_nt (ws_skip (ws_asg (we_call (wa_cons (we_tup (wa_cons (we_rd rfl (wa_cons (we_c2 (we_c2 (we_rd rfl (we_cst (wo_r (a8) (we_c2 (we_c2 (we_c2 (we_rd rfl (we_cst (wo_r (a8) (we_cst (wo_r (dv2) (we_cst (wo_r (mu2) (wo_r (su2) (wa_nil (wa_cons (we_call (wa_cons (we_rd rfl (wa_nil (wf_r (f2) (wa_nil (wf_r (f4) (wg_set rfl (ws_if (wt_not (wt_v (we_call (wa_cons (we_rd rfl (wa_cons (we_tup (wa_cons (we_c2 (we_tup (wa_cons (we_cst (wa_nil (we_cst (wo_r (z8) (wa_cons (we_cst (wa_nil (wa_nil (wf_r (sm3) (⟨_, rfl, wb_nt (ws_skip ?_)⟩))))))))))))))))))))))))))))))))))))))))))))))))))))))))⟩)))))))))))))))))))))))))))))))))))))))))))⟩)))))))))))))))))))⟩))))))))))))))))⟩))))))))))))))))))))))))))))⟩)))))))
  try dsimp only [List.set_cons_succ, List.set_cons_zero]
  · refine wg_tup (ds := [a.1.d, .int a.2]) rfl (wgs_cons (wg_set rfl (wgs_cons (wg_set rfl (wgs_nil ⟨rfl, wt_yes ⟨rfl, rfl, fun _ => ?_⟩⟩)))))
    have ix := ix_o a.1
    refine we_tup (wa_cons (we_c2 (we_rd rfl (we_rd rfl (wo_r (ix) (wa_cons (we_rd rfl (wa_nil (⟨rfl, rfl⟩)))))))))
  · refine wg_set rfl ⟨rfl, wt_yes ⟨rfl, rfl, fun _ => ?_⟩⟩
    have o := other_eq a
    refine we_call (wa_cons (we_rd rfl (wa_nil (wf_r (o) (⟨rfl, rfl⟩)))))
  · refine wg_set rfl ⟨rfl, wt_yes ⟨rfl, rfl, fun _ => ?_⟩⟩
    refine we_c1 (we_rd rfl (wo_r (rfl) (⟨rfl, rfl⟩)))
  · exact w15_ev d ⟨tp, _, _, _, _, _, _, _, _, _, _, _, _, _, _, _, _, _, _, _, _, _, _, _, rfl, hb⟩
end
end Lw
namespace Lw
open PySem hiding Env Run
open Dn Lb
variable [Wd]

section
variable {t : List Pf}
def InK (t : List Pf) (k : Int) (δ : Env) : Prop := ∃ tp, ∃ x0 x3 x8 x9 x10 x11 x12 x13 x14 x15 x16 x17 x18 x19 x20 x21 x22 x23 x24 x25 x26, δ = [x0, some (.list tp), some kD5, x3, some (encTf t), some (enc8 (dpF t)), some (.int (tsF t % 16)), some (.int k), x8, x9, x10, x11, x12, x13, x14, x15, x16, x17, x18, x19, x20, x21, x22, x23, x24, x25, x26] ∧ BoxOk tp
theorem b5_ev {p : Pf} {k : Int} {δ : Env} (h : InK t k δ) : WG (stS 9) (encF p) δ fun δ2 => WS b5_law δ2 (On (InK t k)) := by
  obtain ⟨tp, x0, x3, x8, x9, x10, x11, x12, x13, x14, x15, x16, x17, x18, x19, x20, x21, x22, x23, x24, x25, x26, rfl, hb⟩ := h
  refine wg_set rfl ?_
  try dsimp only [List.set_cons_succ, List.set_cons_zero]
  unfold b5_law
  have f1 := fs_eq p k
  have f2 : F__law_walk [.tuple [encF p]] = some (.tuple [enc8 (dpF [p]), .int (tsF [p] % 16)]) := lw_eq [p]
  have i0 : ixD (.tuple [enc8 (dpF [p]), .int (tsF [p] % 16)]) (.int 0) = some (enc8 (dpF [p])) := ixT0 _ _
  have f3 := lt_eq (dpF [p]) k
  rw [dp_one, ← stepF_turn] at f3
  rw [dp_one] at f2 i0
  have sm := sm_ok (gd_8 0 (stepF p k)).ok (by decide)
  refine ws_if (wt_not (wt_v (we_call (wa_cons (we_call (wa_cons (we_rd rfl (wa_cons (we_rd rfl (wa_nil (wf_r (f1) (wa_cons (we_call (wa_cons (we_c2 (we_call (wa_cons (we_tup (wa_cons (we_rd rfl (wa_nil (wa_nil (wf_r (f2) (we_cst (wo_r (i0) (wa_cons (we_rd rfl (wa_nil (wf_r (f3) (wa_nil (wf_r (sm) (⟨_, rfl, wb_nt (ws_skip (ws_end ⟨tp, _, _, _, _, _, _, _, _, _, _, _, _, _, _, _, _, _, _, _, _, _, rfl, hb⟩))⟩))))))))))))))))))))))))))))))))
theorem two8 (s : Sp8) : tupleD [.list (s.l.map fun i => .int (2 * i))] = some (enc8 (Sp8.add s s)) := by
  have e : (s.l.map fun i => (.int (2 * i) : D)) = (Sp8.add s s).l.map .int := by
    unfold Sp8.l Sp8.add
    simp only [List.map_cons, List.map_nil, List.cons.injEq, PyData.int.injEq, and_true]
    omega
  rw [e]
  rfl
theorem any_false {α : Type} (f : α → Bool) (l : List α) (h : ∀ a ∈ l, f a = false) : anD [.list (l.map fun a => .bool (f a))] = some (.bool false) := by
  rw [an_bool f l]
  congr 2
  rw [List.any_eq_false]
  intro a ha
  rw [h a ha]
  decide
theorem all_true {α : Type} (l : List α) : allD [.list (l.map fun _ => .bool true)] = some (.bool true) := by
  rw [all_map (fun _ => true) l]
  congr 2
  rw [List.all_eq_true]
  exact fun _ _ => rfl
set_option maxHeartbeats 4000000 in
theorem b16_ev {δ : Env} (h : Inv27 δ) : WS b16_law δ (On Inv27) := by
  obtain ⟨tp, x0, x3, x4, x5, x6, x7, x8, x9, x10, x11, x12, x13, x14, x15, x16, x17, x18, x19, x20, x21, x22, x23, x24, x25, x26, rfl, hb⟩ := h
  unfold b16_law
  obtain ⟨t, tp1, et, ht, lt, hb1⟩ := track_ev hb ks5 (by decide) (by decide) 10 (by decide)
  have d : Dt t (dpF t) := ⟨lt, fun p hp => (ht p hp).2, bd_mono (bd_dp fun p hp => by have := (ht p hp).2; omega) (by omega)⟩
  have et : F__law_track tp [.int 10, kD5] = some (encTf t, tp1) := et
  refine ws_asg (we_io rfl (wa_cons (we_cst (wa_cons (we_rd rfl (wa_nil ⟨_, _, _, rfl, et, wg_set rfl ?_⟩))))))
  try dsimp only [List.set_cons_succ, List.set_cons_zero]
  have lw := lw_eq t
  have f1 := fp_o t
  have sm1 : F__law_same 8 [encQ (dpF t, tsF t % 16), .tuple [enc8 (dpF t), .int (tsF t % 16)]] = some (.bool true) := sm_Q (dpF t, tsF t % 16)
  have f2 := dfc_eq t (by omega)
  have ne := neT t (by omega)
  have q := eqQ (dpF t, tsF t % 16) (Sp8.z, 0)
  have q' : eqD (.tuple [enc8 (dpF t), .int (tsF t % 16)]) (.tuple [enc8 Sp8.z, .int 0]) = some (.bool (decide ((dpF t, tsF t % 16) = ((Sp8.z, 0) : Pof)))) := q
  have hh := halved_eq t (by omega)
  have f3 := fp_o (hvT t)
  rw [dp_hvT, ts_hvT] at f3
  have an := any_false (fun p : Pf => decide (p.1 = .l ∨ p.1 = .r)) (hvT t) (fun p hp => by
    obtain ⟨q, _, hq⟩ := List.mem_flatMap.mp hp
    have := hv_half q p hq
    exact decide_eq_false fun z => z.elim this.1 this.2)
  have al := all_true t
  have sm2 := sm_bool (closB t)
  -- behind the fourth statement
  have rest : ∀ x0 x3 x7 x8 x9 x10 x11 x12 x13 x14 x15 x16 x17 x18 x19 x20 x21 x22 x23 x24 x25 x26 : Option D, WS (seqS (ifS (orT (tst (cN anD (aCons (lcV (seqI (cN F_halved (aCons (rd 4) aNil))) (tgT 2 (tCons' (stS 24) (tCons' (stS 8) tNil'))) [24, 8] yesT e2_law) aNil))) (notT (tst (cN allD (aCons (lcV (seqI (rd 4)) (stS 9) [9] yesT e3_law) aNil))))) (seqS (rtS (cst (.bool false))) skip) skip) (seqS (par2S 7 8 (c2 subD (ioV 1 F__law_draw (aCons (cst (.int 40)) aNil)) (cst (.int 20))) (c2 subD (ioV 1 F__law_draw (aCons (cst (.int 9)) aNil)) (cst (.int 4)))) (seqS (ifS (notT (tst (cN (F__law_same 8) (aCons (tupV (aCons (cN F_fine_turned (aCons (rd 5) (aCons (rd 7) aNil))) (aCons (cN F_fine_along (aCons (rd 7) (aCons (rd 8) aNil))) (aCons (cN F_fine_added (aCons (rd 5) (aCons (rd 5) aNil))) aNil)))) (aCons (tupV (aCons (cN F__law_turned (aCons (rd 5) (aCons (rd 7) aNil))) (aCons (cN F__law_turned (aCons (c2 addD (tupV (aCons (rd 8) aNil)) (c2 mulD (tupV (aCons (cst (.int 0)) aNil)) (cst (.int 7)))) (aCons (rd 7) aNil))) (aCons (cN tupleD (aCons (lcV (seqI (rd 5)) (stS 26) [26] yesT e4_law) aNil)) aNil)))) aNil))))) (seqS (rtS (cst (.bool false))) skip) skip) (seqS (forS (seqI (slV (rd 4) noPt (ptOf (cst (.int 2))))) (stS 9) b5_law) w8)))) [x0, some (.list tp1), some kD5, x3, some (encTf t), some (enc8 (dpF t)), some (.int (tsF t % 16)), x7, x8, x9, x10, x11, x12, x13, x14, x15, x16, x17, x18, x19, x20, x21, x22, x23, x24, x25, x26] (On Inv27) := by
    intro x0 x3 x7 x8 x9 x10 x11 x12 x13 x14 x15 x16 x17 x18 x19 x20 x21 x22 x23 x24 x25 x26
    refine ws_if (wt_or (wt_v (we_call (wa_cons (we_lcm (encF) (hvT t) ((fun p : Pf => .bool (decide (p.1 = .l ∨ p.1 = .r)))) (wa_seq (we_call (wa_cons (we_rd rfl (wa_nil (wf_r (hh) (wl_r (rfl) (⟨rfl, fun a ha => ⟨?_⟩, wa_nil (wf_r (an) (⟨_, rfl, wb_f (wt_not (wt_v (we_call (wa_cons (we_lcm (encF) (t) ((fun _ => .bool true)) (wa_seq (we_rd rfl (wl_r (rfl) (⟨rfl, fun a ha => ⟨?_⟩, wa_nil (wf_r (al) (⟨_, rfl, wb_nt (ws_skip ?_)⟩))⟩)))))))))⟩))⟩)))))))))))))
    · refine wg_tup (ds := [a.1.d, .int a.2]) rfl (wgs_cons (wg_set rfl (wgs_cons (wg_set rfl (wgs_nil ⟨rfl, wt_yes ⟨rfl, rfl, fun _ => ?_⟩⟩)))))
      have il := in_LR a.1
      refine we_c2 (we_rd rfl (we_tup (wa_cons (we_cst (wa_cons (we_cst (wa_nil (wo_r (il) (⟨rfl, rfl⟩)))))))))
    · refine wg_set rfl ⟨rfl, wt_yes ⟨rfl, rfl, fun _ => ?_⟩⟩
      have g1 := turn_eq a
      have g2 := ixF0 a
      have g3 := ixTu a.1
      have sm : F__law_same 8 [.int a.1.t, .int a.1.t] = some (.bool true) := sm_ok (n := 0) (.int _) (by decide)
      refine we_call (wa_cons (we_call (wa_cons (we_rd rfl (wa_nil (wf_r (g1) (wa_cons (we_c2 (we_cst (we_c2 (we_rd rfl (we_cst (wo_r (g2) (wo_r (g3) (wa_nil (wf_r (sm) (⟨rfl, rfl⟩)))))))))))))))))
    refine ws_par2 (we_c2 (we_draw (n := 40) rfl hb1 (by decide) (by decide) (fun c tp c0 c1 hb => we_cst (wo_r (subD_int _ _) ?_)) rfl))
    refine we_c2 (we_draw (n := 9) rfl hb (by decide) (by decide) (fun e tp e0 e1 hb => we_cst (wo_r (subD_int _ _) (wg_set rfl (wg_set rfl ?_)))) rfl)
    try dsimp only [List.set_cons_succ, List.set_cons_zero]
    have h1 := ft_eq (dpF t) (c - 20)
    have h2 := fa_eq (c - 20) (e - 4)
    have h3 := fadd_eq (dpF t) (dpF t)
    have h4 := lt_eq (dpF t) (c - 20)
    have m7 : mulD (.tuple [.int 0]) (.int 7) = some (.tuple [.int 0, .int 0, .int 0, .int 0, .int 0, .int 0, .int 0]) := by kernel_rfl
    have a7 : addD (.tuple [.int (e - 4)]) (.tuple [.int 0, .int 0, .int 0, .int 0, .int 0, .int 0, .int 0]) = some (enc8 (Sp8.unit (e - 4))) := rfl
    have h5 := lt_eq (Sp8.unit (e - 4)) (c - 20)
    have h6 := two8 (dpF t)
    have sm3 : F__law_same 8 [.tuple [enc8 (turn8 (c - 20) (dpF t)), enc8 (turn8 (c - 20) (Sp8.unit (e - 4))), enc8 (Sp8.add (dpF t) (dpF t))], .tuple [enc8 (turn8 (c - 20) (dpF t)), enc8 (turn8 (c - 20) (Sp8.unit (e - 4))), enc8 (Sp8.add (dpF t) (dpF t))]] = some (.bool true) := sm_ok (Gd.t3 (gd_8 0 _) (gd_8 0 _) (gd_8 0 _)).ok (by decide)
    refine ws_if (wt_not (wt_v (we_call (wa_cons (we_tup (wa_cons (we_call (wa_cons (we_rd rfl (wa_cons (we_rd rfl (wa_nil (wf_r (h1) (wa_cons (we_call (wa_cons (we_rd rfl (wa_cons (we_rd rfl (wa_nil (wf_r (h2) (wa_cons (we_call (wa_cons (we_rd rfl (wa_cons (we_rd rfl (wa_nil (wf_r (h3) (wa_nil (wa_cons (we_tup (wa_cons (we_call (wa_cons (we_rd rfl (wa_cons (we_rd rfl (wa_nil (wf_r (h4) (wa_cons (we_call (wa_cons (we_c2 (we_tup (wa_cons (we_rd rfl (wa_nil (we_c2 (we_tup (wa_cons (we_cst (wa_nil (we_cst (wo_r (m7) (wo_r (a7) (wa_cons (we_rd rfl (wa_nil (wf_r (h5) (wa_cons (we_call (wa_cons (we_lcm ((fun i : Int => (.int i : D))) ((dpF t).l) ((fun i => .int (2 * i))) (wa_seq (we_rd rfl (wl_r (rfl) (⟨rfl, fun a ha => ⟨?_⟩, wa_nil (wf_r (h6) (wa_nil (wa_nil (wf_r (sm3) (⟨_, rfl, wb_nt (ws_skip ?_)⟩)))))⟩))))))))))))))))))))))))))))))))))))))))))))))))))))))))))))))))))))
    · refine wg_set rfl ⟨rfl, wt_yes ⟨rfl, rfl, fun _ => ?_⟩⟩
      have mu : mulD (.int 2) (.int a) = some (.int (2 * a)) := mulD_int (.inl (by decide))
      refine we_c2 (we_cst (we_rd rfl (wo_r (mu) (⟨rfl, rfl⟩))))
    have sl : slD (encTf t) none (some 2) = some (.tuple ((t.take 2).map encF)) := by
      show slD (.tuple (t.map encF)) _ _ = _
      rw [slD_tuple (imm_map encF imF t)]
      have := cut_take (t.map encF) 2
      rw [← List.map_take] at this
      exact congrArg (fun l => some (PyData.tuple l)) this
    refine ws_forI (InK t (c - 20)) (wa_seq (we_sl (we_rd rfl (wp_no (wp_of (we_cst ⟨_, rfl, wo_r sl (wl_r rfl ⟨⟨tp, _, _, _, _, _, _, _, _, _, _, _, _, _, _, _, _, _, _, _, _, _, rfl, hb⟩, ?_, ?_⟩)⟩))))))
    · rintro x hx δ hδ
      obtain ⟨p, _, rfl⟩ := List.mem_map.mp hx
      exact b5_ev hδ
    · rintro _ ⟨tp, x0, x3, x8, x9, x10, x11, x12, x13, x14, x15, x16, x17, x18, x19, x20, x21, x22, x23, x24, x25, x26, rfl, hb⟩
      exact w8_ev d hb
  refine ws_asg (we_call (wa_cons (we_rd rfl (wa_nil (wf_r lw (wg_tup (ds := [enc8 (dpF t), .int (tsF t % 16)]) rfl (wgs_cons (wg_set rfl (wgs_cons (wg_set rfl (wgs_nil ?_)))))))))))
  try dsimp only [List.set_cons_succ, List.set_cons_zero]
  have cl : closB t = (decide (t ≠ []) && decide ((dpF t, tsF t % 16) = ((Sp8.z, 0) : Pof))) := by
    unfold closB
    refine congrArg (fun b => decide (t ≠ []) && b) ?_
    exact decide_eq_decide.mpr ⟨fun h => Prod.ext h.1 h.2, fun h => ⟨(Prod.ext_iff.mp h).1, (Prod.ext_iff.mp h).2⟩⟩
  cases h0 : decide (t ≠ []) with
  | false =>
    rw [h0] at ne cl
    rw [show closB t = false from cl] at f2 sm2
    refine ws_if (wt_not (wt_v (we_call (wa_cons (we_call (wa_cons (we_tup (wa_cons (we_cst (wa_cons (we_cst (wa_nil (wa_cons (we_rd rfl (wa_nil (wf_r (f1) (wa_cons (we_tup (wa_cons (we_rd rfl (wa_cons (we_rd rfl (wa_nil (wa_nil (wf_r (sm1) (⟨_, rfl, wb_nt (ws_skip (ws_if (wt_or (wt_not (wt_v (we_call (wa_cons (we_call (wa_cons (we_rd rfl (wa_nil (wf_r (f2) (wa_cons (we_and (we_c2 (we_rd rfl (we_tup (wa_nil (wo_r (ne) (⟨_, rfl, wb_f (wa_nil (wf_r (sm2) (⟨_, rfl, wb_nt (wt_not (wt_v (we_call (wa_cons (we_call (wa_cons (we_tup (wa_cons (we_cst (wa_cons (we_cst (wa_nil (wa_cons (we_call (wa_cons (we_rd rfl (wa_nil (wf_r (hh) (wa_nil (wf_r (f3) (wa_cons (we_tup (wa_cons (we_rd rfl (wa_cons (we_rd rfl (wa_nil (wa_nil (wf_r (sm1) (⟨_, rfl, wb_nt (ws_skip ?_)⟩))))))))))))))))))))))))))))))⟩)))⟩))))))))))))))))))))⟩))))))))))))))))))))))))))
    exact rest _ _ _ _ _ _ _ _ _ _ _ _ _ _ _ _ _ _ _ _ _ _
  | true =>
    rw [h0] at ne cl
    rw [show closB t = decide ((dpF t, tsF t % 16) = ((Sp8.z, 0) : Pof)) from cl] at f2 sm2
    refine ws_if (wt_not (wt_v (we_call (wa_cons (we_call (wa_cons (we_tup (wa_cons (we_cst (wa_cons (we_cst (wa_nil (wa_cons (we_rd rfl (wa_nil (wf_r (f1) (wa_cons (we_tup (wa_cons (we_rd rfl (wa_cons (we_rd rfl (wa_nil (wa_nil (wf_r (sm1) (⟨_, rfl, wb_nt (ws_skip (ws_if (wt_or (wt_not (wt_v (we_call (wa_cons (we_call (wa_cons (we_rd rfl (wa_nil (wf_r (f2) (wa_cons (we_and (we_c2 (we_rd rfl (we_tup (wa_nil (wo_r (ne) (⟨_, rfl, wb_t (we_c2 (we_tup (wa_cons (we_rd rfl (wa_cons (we_rd rfl (wa_nil (we_tup (wa_cons (we_c2 (we_tup (wa_cons (we_cst (wa_nil (we_cst (wo_r (z8) (wa_cons (we_cst (wa_nil (wo_r (q') (wa_nil (wf_r (sm2) (⟨_, rfl, wb_nt (wt_not (wt_v (we_call (wa_cons (we_call (wa_cons (we_tup (wa_cons (we_cst (wa_cons (we_cst (wa_nil (wa_cons (we_call (wa_cons (we_rd rfl (wa_nil (wf_r (hh) (wa_nil (wf_r (f3) (wa_cons (we_tup (wa_cons (we_rd rfl (wa_cons (we_rd rfl (wa_nil (wa_nil (wf_r (sm1) (⟨_, rfl, wb_nt (ws_skip ?_)⟩))))))))))))))))))))))))))))))⟩)))))))))))))))))))))))⟩))))))))))))))))))))⟩))))))))))))))))))))))))))
    exact rest _ _ _ _ _ _ _ _ _ _ _ _ _ _ _ _ _ _ _ _ _ _
end
end Lw
namespace Lw
open PySem hiding Env Run
open Dn Lb
variable [Wd]

theorem tupK : tupleD [kD5] = some k_FINE_KINDS := by kernel_rfl
theorem ne_start : neD (.tuple [k_FINE_HEADINGS, k_FINE_KINDS, k_FINE_START]) (.tuple [.int 16, k_FINE_KINDS, enc8 Sp8.z]) = some (.bool false) := by kernel_rfl
theorem ne_turns : neD (.list (ks5.map fun k => .int k.t)) (.list [.int 1, .int (-1), .int 2, .int (-2), .int 0]) = some (.bool false) := by kernel_rfl
theorem law_true (ns : List Int) : F_law [.list (ns.map .int)] = some (.bool true) := by
  obtain ⟨d, e, rfl⟩ : ∃ d, F_law [.list (ns.map .int)] = some d ∧ d = .bool true := by
    refine fn_any rfl rfl ?_
    unfold den_law
    obtain ⟨tp, et, hb⟩ := box_ev ns
    have n1 : negD (.int 1) = some (.int (-1)) := rfl
    have n2 : negD (.int 2) = some (.int (-2)) := rfl
    refine ws_asg (we_call (wa_cons (we_rd rfl (wa_nil (wf_r (et) (wg_set rfl (ws_asg (we_lst (wa_cons (we_cst (wa_cons (we_cst (wa_cons (we_cst (wa_cons (we_cst (wa_cons (we_cst (wa_nil (wg_set rfl ?_))))))))))))))))))))
    try dsimp only [List.set_cons_succ, List.set_cons_zero]
    show WS _ [some (.list (ns.map .int)), some (.list tp), some kD5, none, none, none, none, none, none, none, none, none, none, none, none, none, none, none, none, none, none, none, none, none, none, none, none] _
    refine ws_if (wt_or (wt_b (we_c2 (we_tup (wa_cons (we_cst (wa_cons (we_cst (wa_cons (we_cst (wa_nil (we_tup (wa_cons (we_cst (wa_cons (we_call (wa_cons (we_rd rfl (wa_nil (wf_r (tupK) (wa_cons (we_c2 (we_tup (wa_cons (we_cst (wa_nil (we_cst (wo_r (z8) (wa_nil (wo_r (ne_start) (⟨_, rfl, wb_f (wt_b (we_c2 (we_lcm (Kf.d) (ks5) ((fun k => .int k.t)) (wa_seq (we_rd rfl (wl_r (rfl) (⟨rfl, fun a ha => ⟨?_⟩, we_lst (wa_cons (we_cst (wa_cons (we_c1 (we_cst (wo_r (n1) (wa_cons (we_cst (wa_cons (we_c1 (we_cst (wo_r (n2) (wa_cons (we_cst (wa_nil (wo_r (ne_turns) (⟨_, rfl, wb_f (ws_skip ?_)⟩)))))))))))))))))⟩)))))))⟩)))))))))))))))))))))))))))))))
    · refine wg_set rfl ⟨rfl, wt_yes ⟨rfl, rfl, fun _ => ?_⟩⟩
      have ix := ixTu a
      refine we_c2 (we_cst (we_rd rfl (wo_r (ix) (⟨rfl, rfl⟩))))
    refine ws_forI Inv27 (wa_rg (wa_cons (we_cst (wa_nil (wl_r (rg1_nat (n := 6) (by decide)) ⟨⟨tp, _, _, _, _, _, _, _, _, _, _, _, _, _, _, _, _, _, _, _, _, _, _, _, _, _, rfl, hb⟩, ?_, ?_⟩)))))
    · rintro d hd _ ⟨tp, x0, x3, x4, x5, x6, x7, x8, x9, x10, x11, x12, x13, x14, x15, x16, x17, x18, x19, x20, x21, x22, x23, x24, x25, x26, rfl, hb⟩
      refine wg_set rfl ?_
      exact b16_ev ⟨tp, _, _, _, _, _, _, _, _, _, _, _, _, _, _, _, _, _, _, _, _, _, _, _, _, _, rfl, hb⟩
    · rintro _ ⟨tp, x0, x3, x4, x5, x6, x7, x8, x9, x10, x11, x12, x13, x14, x15, x16, x17, x18, x19, x20, x21, x22, x23, x24, x25, x26, rfl, hb⟩
      refine ws_rt (we_cst (⟨_, _, rfl, rfl⟩))
  exact e
end Lw
namespace Lw
open PySem PySem.Spec PyProof.Rows L2 Dn Lb
theorem law_fd [Wd] {l : PySem.W.OpenLaw} {K : PySem.W.Frag} {h : Heap} {mg : Str → Option Value} {fa f : Addr} {oc kV doc pm cdv ct : Value} {od an : Option Addr} {osl : Array (Option Value)} (X : K.In h) (G : h.Ns mainGlobals mg) (hfa : mg "law" = some (.ref fa)) (T : Tx K mg)
    (a : PySem.W.nsIn K mainGlobals "law" = some (some (.ref f))) (e : K.lookup f = some ⟨oc, od, .func (PySem.W.fnOf "law" "law" (defArgs s_law) (defBody s_law) (defScope s_law) .none kV doc pm an cdv ct), osl⟩) (c : PySem.W.codeIn K cdv "law" = true) (k : PySem.W.keepIn K (.ref f) = true) :
    ∃ fd : FuncData, (∀ (s : Shared) (v : Value), BindsTo s fd ⟨[v], []⟩ [("script", v)]) ∧ ∀ base : Heap, K.In base → base.Ns mainGlobals mg → FnOk l.prog Wd.w K mg base CX0 11 fa fd ["script"] (spLaw K) := by
  have z := hfa.symm.trans (PySem.W.mg_of X G a)
  cases z
  exact ⟨_, fun s v => .of_eq rfl, fun base _ _ => law_imp (ok_law T (fun_mk e c k)) law_true⟩
end Lw
open PySem PySem.W PyProof.Rows
set_option maxHeartbeats 0 in
theorem PySem.Challenge.cw_loopsclosed_k54_whole_sixteenths_holds : PySem.Challenge.rw_loopsclosed_k54_whole_sixteenths.Holds := by
  w_on; o_law; k_head
  (case hw => w_witness2)
  k_fill
  refine L2.walk_of (l := PySem.Challenge.rw_loopsclosed_k54_whole_sixteenths) (n := 63) (k := 11) (x := "script") (CX := fun _ => L2.CX0) (sp := fun w => Dn.spLaw _) rfl (by decide) rfl ⟨rfl, by decide, by decide⟩
    (fun w h Y => PySem.W.kIn_of Y) ?F (fun _ _ a ns _ hO hS => ⟨a, ns, rfl, hO, hS, fun _ => rfl⟩) (fun _ _ _ _ _ z => z)
  case F =>
    intro w mg fa h KX G hmg
    letI : Dn.Wd := ⟨w⟩
    have d_is_whole := Dn.Df.mk1 (x := "is_whole") (st := Lw.s_is_whole) (ps := ["value"]) KX G (by k_is) (by k_is) (by k_is) (by k_is) (fun _ _ _ _ _ _ us hl => match us, hl with | [_], _ => rfl)
    have d_is_number := Dn.Df.mk1 (x := "is_number") (st := Lw.s_is_number) (ps := ["value", "least", "most"]) KX G (by k_is) (by k_is) (by k_is) (by k_is) (fun _ _ _ _ _ _ us hl => match us, hl with | [_, _, _], _ => rfl)
    have d_added := Dn.Df.mk1 (x := "added") (st := Lw.s_added) (ps := ["one", "other"]) KX G (by k_is) (by k_is) (by k_is) (by k_is) (fun _ _ _ _ _ _ us hl => match us, hl with | [_, _], _ => rfl)
    have d_taken_off := Dn.Df.mk1 (x := "taken_off") (st := Lw.s_taken_off) (ps := ["one", "other"]) KX G (by k_is) (by k_is) (by k_is) (by k_is) (fun _ _ _ _ _ _ us hl => match us, hl with | [_, _], _ => rfl)
    have d_turned_spot := Dn.Df.mk1 (x := "turned_spot") (st := Lw.s_turned_spot) (ps := ["spot", "k"]) KX G (by k_is) (by k_is) (by k_is) (by k_is) (fun _ _ _ _ _ _ us hl => match us, hl with | [_, _], _ => rfl)
    have d_along := Dn.Df.mk1 (x := "along") (st := Lw.s_along) (ps := ["heading", "n"]) KX G (by k_is) (by k_is) (by k_is) (by k_is) (fun _ _ _ _ _ _ us hl => match us, hl with | [_, _], _ => rfl)
    have d_turn_of := Dn.Df.mk1 (x := "turn_of") (st := Lw.s_turn_of) (ps := ["piece"]) KX G (by k_is) (by k_is) (by k_is) (by k_is) (fun _ _ _ _ _ _ us hl => match us, hl with | [_], _ => rfl)
    have d_step_of := Dn.Df.mk1 (x := "step_of") (st := Lw.s_step_of) (ps := ["piece", "heading"]) KX G (by k_is) (by k_is) (by k_is) (by k_is) (fun _ _ _ _ _ _ us hl => match us, hl with | [_, _], _ => rfl)
    have d_pose_behind := Dn.Df.mk1 (x := "pose_behind") (st := Lw.s_pose_behind) (ps := ["pose", "piece"]) KX G (by k_is) (by k_is) (by k_is) (by k_is) (fun _ _ _ _ _ _ us hl => match us, hl with | [_, _], _ => rfl)
    have d_poses_along := Dn.Df.mk1 (x := "poses_along") (st := Lw.s_poses_along) (ps := ["pose", "track"]) KX G (by k_is) (by k_is) (by k_is) (by k_is) (fun _ _ _ _ _ _ us hl => match us, hl with | [_, _], _ => rfl)
    have d_pose_after := Dn.Df.mk1 (x := "pose_after") (st := Lw.s_pose_after) (ps := ["pose", "track"]) KX G (by k_is) (by k_is) (by k_is) (by k_is) (fun _ _ _ _ _ _ us hl => match us, hl with | [_, _], _ => rfl)
    have d_is_closed := Dn.Df.mk1 (x := "is_closed") (st := Lw.s_is_closed) (ps := ["track"]) KX G (by k_is) (by k_is) (by k_is) (by k_is) (fun _ _ _ _ _ _ us hl => match us, hl with | [_], _ => rfl)
    have d_is_fine_spot := Dn.Df.mk1 (x := "is_fine_spot") (st := Lw.s_is_fine_spot) (ps := ["value"]) KX G (by k_is) (by k_is) (by k_is) (by k_is) (fun _ _ _ _ _ _ us hl => match us, hl with | [_], _ => rfl)
    have d_is_fine_piece := Dn.Df.mk1 (x := "is_fine_piece") (st := Lw.s_is_fine_piece) (ps := ["value"]) KX G (by k_is) (by k_is) (by k_is) (by k_is) (fun _ _ _ _ _ _ us hl => match us, hl with | [_], _ => rfl)
    have d_is_fine_track := Dn.Df.mk1 (x := "is_fine_track") (st := Lw.s_is_fine_track) (ps := ["value"]) KX G (by k_is) (by k_is) (by k_is) (by k_is) (fun _ _ _ _ _ _ us hl => match us, hl with | [_], _ => rfl)
    have d_fine_turned := Dn.Df.mk1 (x := "fine_turned") (st := Lw.s_fine_turned) (ps := ["spot", "k"]) KX G (by k_is) (by k_is) (by k_is) (by k_is) (fun _ _ _ _ _ _ us hl => match us, hl with | [_, _], _ => rfl)
    have d_fine_along := Dn.Df.mk1 (x := "fine_along") (st := Lw.s_fine_along) (ps := ["heading", "many"]) KX G (by k_is) (by k_is) (by k_is) (by k_is) (fun _ _ _ _ _ _ us hl => match us, hl with | [_, _], _ => rfl)
    have d_fine_added := Dn.Df.mk1 (x := "fine_added") (st := Lw.s_fine_added) (ps := ["one", "other"]) KX G (by k_is) (by k_is) (by k_is) (by k_is) (fun _ _ _ _ _ _ us hl => match us, hl with | [_, _], _ => rfl)
    have d_fine_turn := Dn.Df.mk1 (x := "fine_turn") (st := Lw.s_fine_turn) (ps := ["piece"]) KX G (by k_is) (by k_is) (by k_is) (by k_is) (fun _ _ _ _ _ _ us hl => match us, hl with | [_], _ => rfl)
    have d_fine_step := Dn.Df.mk1 (x := "fine_step") (st := Lw.s_fine_step) (ps := ["piece", "heading"]) KX G (by k_is) (by k_is) (by k_is) (by k_is) (fun _ _ _ _ _ _ us hl => match us, hl with | [_, _], _ => rfl)
    have d_fine_pose_after := Dn.Df.mk1 (x := "fine_pose_after") (st := Lw.s_fine_pose_after) (ps := ["pose", "track"]) KX G (by k_is) (by k_is) (by k_is) (by k_is) (fun _ _ _ _ _ _ us hl => match us, hl with | [_, _], _ => rfl)
    have d_does_fine_close := Dn.Df.mk1 (x := "does_fine_close") (st := Lw.s_does_fine_close) (ps := ["track"]) KX G (by k_is) (by k_is) (by k_is) (by k_is) (fun _ _ _ _ _ _ us hl => match us, hl with | [_], _ => rfl)
    have d_fine_spot_of := Dn.Df.mk1 (x := "fine_spot_of") (st := Lw.s_fine_spot_of) (ps := ["spot"]) KX G (by k_is) (by k_is) (by k_is) (by k_is) (fun _ _ _ _ _ _ us hl => match us, hl with | [_], _ => rfl)
    have d_halved := Dn.Df.mk1 (x := "halved") (st := Lw.s_halved) (ps := ["track"]) KX G (by k_is) (by k_is) (by k_is) (by k_is) (fun _ _ _ _ _ _ us hl => match us, hl with | [_], _ => rfl)
    have d_fine_other := Dn.Df.mk1 (x := "fine_other") (st := Lw.s_fine_other) (ps := ["piece"]) KX G (by k_is) (by k_is) (by k_is) (by k_is) (fun _ _ _ _ _ _ us hl => match us, hl with | [_], _ => rfl)
    have d_fine_mirrored := Dn.Df.mk1 (x := "fine_mirrored") (st := Lw.s_fine_mirrored) (ps := ["track"]) KX G (by k_is) (by k_is) (by k_is) (by k_is) (fun _ _ _ _ _ _ us hl => match us, hl with | [_], _ => rfl)
    have d_fine_back := Dn.Df.mk1 (x := "fine_back") (st := Lw.s_fine_back) (ps := ["track"]) KX G (by k_is) (by k_is) (by k_is) (by k_is) (fun _ _ _ _ _ _ us hl => match us, hl with | [_], _ => rfl)
    have d__law_box := Dn.Df.mk1 (x := "_law_box") (st := Lw.s__law_box) (ps := ["script"]) KX G (by k_is) (by k_is) (by k_is) (by k_is) (fun _ _ _ _ _ _ us hl => match us, hl with | [_], _ => rfl)
    have d__law_load := Dn.Df.mk1 (x := "_law_load") (st := Lw.s__law_load) (ps := ["box"]) KX G (by k_is) (by k_is) (by k_is) (by k_is) (fun _ _ _ _ _ _ us hl => match us, hl with | [_], _ => rfl)
    have d__law_draw := Dn.Df.mk1 (x := "_law_draw") (st := Lw.s__law_draw) (ps := ["box", "many"]) KX G (by k_is) (by k_is) (by k_is) (by k_is) (fun _ _ _ _ _ _ us hl => match us, hl with | [_, _], _ => rfl)
    have d__law_same := Dn.Df.mk1 (x := "_law_same") (st := Lw.s__law_same) (ps := ["a", "b"]) KX G (by k_is) (by k_is) (by k_is) (by k_is) (fun _ _ _ _ _ _ us hl => match us, hl with | [_, _], _ => rfl)
    have d__law_bent := Dn.Df.mk1 (x := "_law_bent") (st := Lw.s__law_bent) (ps := ["box", "value"]) KX G (by k_is) (by k_is) (by k_is) (by k_is) (fun _ _ _ _ _ _ us hl => match us, hl with | [_, _], _ => rfl)
    have d__law_turned := Dn.Df.mk1 (x := "_law_turned") (st := Lw.s__law_turned) (ps := ["spot", "k"]) KX G (by k_is) (by k_is) (by k_is) (by k_is) (fun _ _ _ _ _ _ us hl => match us, hl with | [_, _], _ => rfl)
    have d__law_walk := Dn.Df.mk1 (x := "_law_walk") (st := Lw.s__law_walk) (ps := ["track"]) KX G (by k_is) (by k_is) (by k_is) (by k_is) (fun _ _ _ _ _ _ us hl => match us, hl with | [_], _ => rfl)
    have d__law_track := Dn.Df.mk1 (x := "_law_track") (st := Lw.s__law_track) (ps := ["box", "most", "kinds"]) KX G (by k_is) (by k_is) (by k_is) (by k_is) (fun _ _ _ _ _ _ us hl => match us, hl with | [_, _, _], _ => rfl)
    have d__law_is_piece := Dn.Df.mk1 (x := "_law_is_piece") (st := Lw.s__law_is_piece) (ps := ["value"]) KX G (by k_is) (by k_is) (by k_is) (by k_is) (fun _ _ _ _ _ _ us hl => match us, hl with | [_], _ => rfl)
    have d_law := Dn.Df.mk1 (x := "law") (st := Lw.s_law) (ps := ["script"]) KX G (by k_is) (by k_is) (by k_is) (by k_is) (fun _ _ _ _ _ _ us hl => match us, hl with | [_], _ => rfl)
    have k_FINE_HEADINGS := Dn.Kon.of (x := "FINE_HEADINGS") (d := Lw.k_FINE_HEADINGS) KX G (by k_is) (.int _ _) (by decide +kernel)
    have k_FINE_KINDS := Dn.Kon.of (x := "FINE_KINDS") (d := Lw.k_FINE_KINDS) KX G (by k_is) (.tup (by k_is) (.cons (.str _ _) (.cons (.str _ _) (.cons (.str _ _) (.cons (.str _ _) (.cons (.str _ _) .nil)))))) (by decide +kernel)
    have k_FINE_START := Dn.Kon.of (x := "FINE_START") (d := Lw.k_FINE_START) KX G (by k_is) (.tup (by k_is) (.cons (.int _ _) (.cons (.int _ _) (.cons (.int _ _) (.cons (.int _ _) (.cons (.int _ _) (.cons (.int _ _) (.cons (.int _ _) (.cons (.int _ _) .nil))))))))) (by decide +kernel)
    have k_FINE_TURNS : Dn.Kon _ mg "FINE_TURNS" Lw.k_FINE_TURNS := Dn.Kon.dict (x := "FINE_TURNS") KX G (by k_is) (by k_is) (by exact ⟨rfl, rfl, rfl⟩) (by exact rfl) (by decide +kernel) (by exact (.cons (.str _ _) rfl (.int _ _) (.cons (.str _ _) rfl (.int _ _) (.cons (.str _ _) rfl (.int _ _) (.cons (.str _ _) rfl (.int _ _) (.cons (.str _ _) rfl (.int _ _) .nil)))))) (by decide +kernel) (by decide +kernel)
    have k_FIRST_POSE := Dn.Kon.of (x := "FIRST_POSE") (d := Lb.k_FIRST_POSE) KX G (by k_is) (.tup (by k_is) (.cons (.tup (by k_is) (.cons (.int _ _) (.cons (.int _ _) (.cons (.int _ _) (.cons (.int _ _) .nil))))) (.cons (.int _ _) .nil))) (by decide +kernel)
    have k_HEADINGS := Dn.Kon.of (x := "HEADINGS") (d := Lb.k_HEADINGS) KX G (by k_is) (.int _ _) (by decide +kernel)
    have k_LONGEST := Dn.Kon.of (x := "LONGEST") (d := Lw.k_LONGEST) KX G (by k_is) (.int _ _) (by decide +kernel)
    have k_MOST_PIECES := Dn.Kon.of (x := "MOST_PIECES") (d := Lw.k_MOST_PIECES) KX G (by k_is) (.int _ _) (by decide +kernel)
    have z_all := PySem.W.mg_none_of (n := "all") KX G (by k_is)
    have z_any := PySem.W.mg_none_of (n := "any") KX G (by k_is)
    have z_bool := PySem.W.mg_none_of (n := "bool") KX G (by k_is)
    have z_int := PySem.W.mg_none_of (n := "int") KX G (by k_is)
    have z_isinstance := PySem.W.mg_none_of (n := "isinstance") KX G (by k_is)
    have z_len := PySem.W.mg_none_of (n := "len") KX G (by k_is)
    have z_list := PySem.W.mg_none_of (n := "list") KX G (by k_is)
    have z_range := PySem.W.mg_none_of (n := "range") KX G (by k_is)
    have z_str := PySem.W.mg_none_of (n := "str") KX G (by k_is)
    have z_tuple := PySem.W.mg_none_of (n := "tuple") KX G (by k_is)
    have z_zip := PySem.W.mg_none_of (n := "zip") KX G (by k_is)
    exact Lw.law_fd KX G hmg ⟨d_is_whole, d_is_number, d_added, d_taken_off, d_turned_spot, d_along, d_turn_of, d_step_of, d_pose_behind, d_poses_along, d_pose_after, d_is_closed, d_is_fine_spot, d_is_fine_piece, d_is_fine_track, d_fine_turned, d_fine_along, d_fine_added, d_fine_turn, d_fine_step, d_fine_pose_after, d_does_fine_close, d_fine_spot_of, d_halved, d_fine_other, d_fine_mirrored, d_fine_back, d__law_box, d__law_load, d__law_draw, d__law_same, d__law_bent, d__law_turned, d__law_walk, d__law_track, d__law_is_piece, d_law, k_FINE_HEADINGS, k_FINE_KINDS, k_FINE_START, k_FINE_TURNS, k_FIRST_POSE, k_HEADINGS, k_LONGEST, k_MOST_PIECES, z_all, z_any, z_bool, z_int, z_isinstance, z_len, z_list, z_range, z_str, z_tuple, z_zip⟩ (by k_is) (by k_is) (by k_is) (by k_is)
#print axioms PySem.Challenge.cw_loopsclosed_k54_whole_sixteenths_holds
