import PyProof.Rows.All
import Wide.All
import OpenK.AllK
import Wide.FinOn
import KE.KStateDown
import KE.KeyNested
import KE.KDictCopyH
import HandS.ForMost
import HandS.Exc
import HandS.TryOnly
import HandS.ExcOwn
import HandS.Lambda
import HandS.WordsExc
import HandS.Evl
import HandS.Defaults
import HandS.Head0
import HandS.Head1
import HandS.Head2
import HandS.HeadEnd
import HandS.HeadHook1
import HandS.HeadHook2
import HandS.HeadHook3
import HandS.HeadHook4
import HandS.TupAny
import HandS.Style
import HandS.SortInts
import HandS.RaiseMore
import HandS.WideBits
import HandS.SetFor
import HandS.ReplaceList
import HandS.CallSlots
import HandS.Property
import HandS.IsInst
import HandS.Ends
import PyProof.ReprRoads
import HandS.Dict
import HandS.Deep
import HandS.Conv
import HandS.FStr
import HandS.Star
import KE.GoesMore
import HandS.Strs
import HandS.Replace
import KE.GoesZip
import PyProof.WalkInts
import HandS.NoneIn
import PyProof.InstNe
import KE.SortData
import KE.KCallOwn
import KE.KIsAll
import HandS.SetKeys
import HandS.ExcInit
import HandS.ExcField
import HandS.ExcIs
import HandS.TryMany
import KE.KExcInit
import PyProof.ExcBaseAll.LookupError
import PyProof.ExcBaseAll.ArithmeticError
import PyProof.ExcBaseAll.ValueError
import HandS.HotCalls
import PyProof.StrOps2
import HandS.DictSubView
import PyProof.SeqIndex
import PyProof.InstEq
import HandS.Records
import HandS.ReplaceLit
import PyProof.ToksMono
import PyProof.NsMap
import HandS.DictComp
import KE.KEqNest
import HandS.TupMul
import KE.KOpsOwn
import HandS.Iter
import KE.KDictItemsList
import HandS.More
import KE.KDictKeyed
import HandS.DictEq
import HandS.StrSplit
import PyProof.CompFree
import KE.IntBitsLaws
import KE.OsArith
import KE.BitLaws
import PyProof.StrLawsIn
import PySem.Challenge.RW_closedinner_k03_whole_texts_of_terms
set_option Elab.async false
set_option linter.all false
set_option maxRecDepth 100000
set_option maxHeartbeats 0

namespace Mir
open PySem L2

inductive P where
  | non | bl (b : Bool) | int (i : Int) | str (x : List Nat)
  | tup (xs : List P) | lst (xs : List P)
  | dct (ks vs : List P)
  | dcl (ks vs : List P)
  | obj (c : Str) (ns : List Str) (xs : List P)
  | ty (n : String) | glo (x : Str)
  | raw (a : Addr)
  | rwp (y z : List Nat)
  | scr (xs : List P)
inductive Vl where
  | p (x : P) | c (k : Nat)
def lamC (K : PySem.W.Frag) (x : Str) : Addr := match K.lookup (He.ga K x) with
  | some ⟨_, _, .func fd, _⟩ => (match fd.code with
    | .ref c => c
    | _ => 0)
  | _ => 0
def lamT (K : PySem.W.Frag) (x : Str) : Addr := He.tabOf K (lamC K x)
inductive Cell where
  | lst (xs : List P)
  | lsv (xs : List Vl)
  | dct (ks vs : List P)
  | ins (c : Str) (ns : List Str) (xs : List Vl)
  | fz (x : P) | res
  | tup (xs : List P)
  | dcT (ks : List (List (Int ⊕ List Nat))) (xs : List P)
  | dcN (η : NestedKey → Int) (ks xs : List P)
  | tbl (x q : Str)
  | dvs (xs : List P)
  | tblC (x q : Str) (c : Addr)
  | tpz (xs : List P)
abbrev Sto := List Cell
abbrev XD := Option (List Str × List P)
inductive Res (A : Type) where
  | ok (a : A) (S : Sto)
  | exc (c : Str) (d : XD) (S : Sto)
  | bad
def Res.bind {A B : Type} (r : Res A) (f : A → Sto → Res B) : Res B := match r with
  | .ok a S => f a S
  | .exc c d S => .exc c d S
  | .bad => .bad
abbrev En := List (Option Vl)
abbrev ME := En → Sto → Res Vl

def strOf (x : List Nat) : Str := ⟨x.toArray⟩
def kk : Int ⊕ List Nat → Key
  | .inl i => .inl i
  | .inr x => .inr (strOf x)

mutual
def nkOf : P → Option NestedKey
  | .non => some .none
  | .bl b => some (.num (if b then 1 else 0))
  | .int i => some (.num i)
  | .str x => some (.text (strOf x))
  | .tup xs => (match nkL xs with
    | some ks => some (.tup ks)
    | none => none)
  | _ => none
def nkL : List P → Option (List NestedKey)
  | [] => some []
  | x :: xs => (match nkOf x, nkL xs with
    | some k, some ks => some (k :: ks)
    | _, _ => none)
end
def DNo (η : NestedKey → Int) (a : Addr) (es : List (NestedKey × Addr × V)) : HO := .ext fun h => es.length ≤ sizeLine ∧ (a == sysModules) = false ∧ ∃ xs : List (NestedKey × Addr × Value),
  Paired (fun (p : NestedKey × Addr × V) (q : NestedKey × Addr × Value) => p.1 = q.1 ∧ p.2.1 = q.2.1 ∧ RelV p.2.2 q.2.2) es xs ∧
  ∃ ds ep, h.DictRaw a ds ep ∧ ds.toList = xs.map (fun x => (⟨η x.1, .ref x.2.1, x.2.2⟩ : DictEntry)) ∧ (xs.map (·.1)).Nodup ∧ ∀ x ∈ xs, x.1.depth ≤ 8
def RawT (K : PySem.W.Frag) (H : Hp) (a : Addr) (y z : Str) (t u : Tok) : Prop :=
  (∃ (o : Obj) (n : Nat), (H a = some (.frz o (.tup [.str y, .str z])) ∨ K.lookup a = some o) ∧ o.cls = .type "tuple" ∧ o.data = .seq #[.str y t, .str z u] n) ∧ t ≠ 0 ∧ u ≠ 0 ∧ t ≠ u ∧ (y == z) = false
mutual
def Rep (K : PySem.W.Frag) (F : Hp) : P → V → Prop
  | .non, v => v = .non
  | .bl b, v => v = .bl b
  | .int i, v => v = .int i
  | .str x, v => v = .str (strOf x)
  | .tup xs, v => ∃ a vs, v = .ref a ∧ SqT K F a vs ∧ RepL K F xs vs
  | .lst xs, v => ∃ a vs, v = .ref a ∧ F a = some (.lst vs) ∧ RepL K F xs vs
  | .scr xs, v => ∃ a vs, v = .ref a ∧ SqL K F a vs ∧ RepL K F xs vs
  | .dct ks xs, v => ∃ a kvs, v = .ref a ∧ F a = some (.dK kvs) ∧ RepL K F ks (kvs.map fun q => kV q.1) ∧ RepL K F xs (kvs.map (·.2))
  | .dcl ks xs, v => ∃ a kvs, v = .ref a ∧ (∃ o, F a = some (.frz o (.dK kvs))) ∧ RepL K F ks (kvs.map fun q => kV q.1) ∧ RepL K F xs (kvs.map (·.2))
  | .obj c ns xs, v => ∃ a dx gs, v = .ref a ∧ F a = some (.ins (He.ga K c) dx gs) ∧ gs.map (·.1) = ns ∧ RepL K F xs (gs.map (·.2))
  | .ty n, v => v = .ty n
  | .glo x, v => v = .ref (He.ga K x)
  | .raw a, v => v = .ref a
  | .rwp y z, v => ∃ a t u, v = .ref a ∧ RawT K F a (strOf y) (strOf z) t u
def RepL (K : PySem.W.Frag) (F : Hp) : List P → List V → Prop
  | [], vs => vs = []
  | x :: xs, vs => ∃ v r, vs = v :: r ∧ Rep K F x v ∧ RepL K F xs r
end

section
variable {K : PySem.W.Frag} {F F' : Hp}
theorem sqt_mono {a : Addr} {vs : List V} (e : Same F F') (h : SqT K F a vs) : SqT K F' a vs := Evl.ex_t e h
theorem sql_mono {a : Addr} {vs : List V} (e : Same F F') (h : SqL K F a vs) : SqL K F' a vs := Evl.ex_l e h
mutual
theorem Rep.mono (e : Same F F') : ∀ {x : P} {v : V}, Rep K F x v → Rep K F' x v
  | .non, _, h => h
  | .bl _, _, h => h
  | .int _, _, h => h
  | .str _, _, h => h
  | .tup xs, v, h => by
    obtain ⟨a, vs, e1, h1, h2⟩ := h
    exact ⟨a, vs, e1, sqt_mono e h1, RepL.mono e h2⟩
  | .lst xs, v, h => by
    obtain ⟨a, vs, e1, h1, h2⟩ := h
    exact ⟨a, vs, e1, e _ _ h1, RepL.mono e h2⟩
  | .scr xs, v, h => by
    obtain ⟨a, vs, e1, h1, h2⟩ := h
    exact ⟨a, vs, e1, sql_mono e h1, RepL.mono e h2⟩
  | .dct ks xs, v, h => by
    obtain ⟨a, kvs, e1, h1, h2, h3⟩ := h
    exact ⟨a, kvs, e1, e _ _ h1, RepL.mono e h2, RepL.mono e h3⟩
  | .dcl ks xs, v, h => by
    obtain ⟨a, kvs, e1, ⟨o, h1⟩, h2, h3⟩ := h
    exact ⟨a, kvs, e1, ⟨o, e _ _ h1⟩, RepL.mono e h2, RepL.mono e h3⟩
  | .obj c ns xs, v, h => by
    obtain ⟨a, dx, gs, e1, h1, h2, h3⟩ := h
    exact ⟨a, dx, gs, e1, e _ _ h1, h2, RepL.mono e h3⟩
  | .ty _, _, h => h
  | .glo _, _, h => h
  | .raw _, _, h => h
  | .rwp y z, v, h => by
    obtain ⟨a, t, u, e1, ⟨o, n, h1, h2, h3⟩, h4⟩ := h
    exact ⟨a, t, u, e1, ⟨o, n, h1.imp (e _ _) id, h2, h3⟩, h4⟩
theorem RepL.mono (e : Same F F') : ∀ {xs : List P} {vs : List V}, RepL K F xs vs → RepL K F' xs vs
  | [], _, h => h
  | x :: xs, vs, h => by
    obtain ⟨v, r, e1, h1, h2⟩ := h
    exact ⟨v, r, e1, Rep.mono e h1, RepL.mono e h2⟩
end
theorem RepL.length : ∀ {xs : List P} {vs : List V}, RepL K F xs vs → vs.length = xs.length
  | [], _, h => by
    have h' : _ = _ := h
    rw [h']
    rfl
  | x :: xs, vs, h => by
    obtain ⟨v, r, e1, h1, h2⟩ := h
    rw [e1, List.length_cons, List.length_cons, RepL.length h2]
theorem RepL.get : ∀ {xs : List P} {vs : List V} {i : Nat} {x : P}, RepL K F xs vs → xs[i]? = some x → ∃ v, vs[i]? = some v ∧ Rep K F x v
  | [], _, _, _, h, e => by simp at e
  | y :: xs, vs, 0, x, h, e => by
    obtain ⟨v, r, e1, h1, h2⟩ := h
    have : y = x := by simpa using e
    subst this
    subst e1
    exact ⟨v, rfl, h1⟩
  | y :: xs, vs, i + 1, x, h, e => by
    obtain ⟨v, r, e1, h1, h2⟩ := h
    subst e1
    obtain ⟨u, hu, hr⟩ := RepL.get (i := i) h2 (by simpa using e)
    exact ⟨u, by simpa using hu, hr⟩
theorem RepL.nil : RepL K F [] [] := rfl
theorem RepL.cons {x : P} {xs : List P} {v : V} {vs : List V} (h : Rep K F x v) (t : RepL K F xs vs) : RepL K F (x :: xs) (v :: vs) := ⟨v, vs, rfl, h, t⟩
theorem RepL.append : ∀ {xs ys : List P} {vs ws : List V}, RepL K F xs vs → RepL K F ys ws → RepL K F (xs ++ ys) (vs ++ ws)
  | [], _, _, _, h, t => by
    have h' : _ = _ := h
    subst h'
    exact t
  | x :: xs, ys, vs, ws, h, t => by
    obtain ⟨v, r, e1, h1, h2⟩ := h
    subst e1
    exact ⟨v, r ++ ws, rfl, h1, RepL.append h2 t⟩
theorem RepL.take : ∀ {xs : List P} {vs : List V} (n : Nat), RepL K F xs vs → RepL K F (xs.take n) (vs.take n)
  | [], vs, n, h => by
    have h' : _ = _ := h
    subst h'
    simp only [List.take_nil]
    exact .nil
  | x :: xs, vs, 0, h => by
    simp only [List.take_zero]
    exact .nil
  | x :: xs, vs, n + 1, h => by
    obtain ⟨v, r, e1, h1, h2⟩ := h
    subst e1
    exact ⟨v, r.take n, rfl, h1, RepL.take n h2⟩
theorem RepL.drop : ∀ {xs : List P} {vs : List V} (n : Nat), RepL K F xs vs → RepL K F (xs.drop n) (vs.drop n)
  | [], vs, n, h => by
    have h' : _ = _ := h
    subst h'
    simp only [List.drop_nil]
    exact .nil
  | x :: xs, vs, 0, h => h
  | x :: xs, vs, n + 1, h => by
    obtain ⟨v, r, e1, h1, h2⟩ := h
    subst e1
    exact RepL.drop n h2
theorem RepL.reverse {xs : List P} {vs : List V} (h : RepL K F xs vs) : RepL K F xs.reverse vs.reverse := by
  induction xs generalizing vs with
  | nil =>
    have h' : _ = _ := h
    subst h'
    exact .nil
  | cons x xs ih =>
    obtain ⟨v, r, e1, h1, h2⟩ := h
    subst e1
    simp only [List.reverse_cons]
    exact (ih h2).append (.cons h1 .nil)
theorem RepL.set : ∀ {xs : List P} {vs : List V} {x : P} {v : V} (i : Nat), RepL K F xs vs → Rep K F x v → RepL K F (xs.set i x) (vs.set i v)
  | [], _, _, _, _, h, _ => by
    have h' : _ = _ := h
    subst h'
    exact .nil
  | y :: xs, vs, x, v, 0, h, hx => by
    obtain ⟨u, r, e1, h1, h2⟩ := h
    subst e1
    exact ⟨v, r, rfl, hx, h2⟩
  | y :: xs, vs, x, v, i + 1, h, hx => by
    obtain ⟨u, r, e1, h1, h2⟩ := h
    subst e1
    exact ⟨u, r.set i v, rfl, h1, RepL.set i h2 hx⟩
theorem RepL.dropLast {xs : List P} {vs : List V} (h : RepL K F xs vs) : RepL K F xs.dropLast vs.dropLast := by
  rw [List.dropLast_eq_take, List.dropLast_eq_take, h.length]
  exact h.take _
theorem RepL.replicate {x : P} {v : V} (h : Rep K F x v) : ∀ n, RepL K F (List.replicate n x) (List.replicate n v)
  | 0 => .nil
  | n + 1 => ⟨v, _, rfl, h, RepL.replicate h n⟩
end

abbrev Io := List (Option Addr)
def RepV (K : PySem.W.Frag) (io : Io) (F : Hp) : Vl → V → Prop
  | .p x, v => Rep K F x v
  | .c k, v => ∃ a, io[k]? = some (some a) ∧ v = .ref a
def RepVs (K : PySem.W.Frag) (io : Io) (F : Hp) : List Vl → List V → Prop
  | [], vs => vs = []
  | x :: xs, vs => ∃ v r, vs = v :: r ∧ RepV K io F x v ∧ RepVs K io F xs r
def CellAt (K : PySem.W.Frag) (io : Io) (F H : Hp) (k : Nat) : Cell → Prop
  | .lst xs => ∃ a vs, io[k]? = some (some a) ∧ F a = none ∧ H a = some (.lst vs) ∧ RepL K F xs vs
  | .lsv xs => ∃ a vs, io[k]? = some (some a) ∧ F a = none ∧ H a = some (.lst vs) ∧ RepVs K io F xs vs ∧ ∀ j, Vl.c j ∈ xs → j < k
  | .dct ks xs => ∃ a kvs, io[k]? = some (some a) ∧ F a = none ∧ H a = some (.dK kvs) ∧ RepL K F ks (kvs.map fun q => kV q.1) ∧ RepL K F xs (kvs.map (·.2))
  | .ins c ns xs => ∃ a dx gs, io[k]? = some (some a) ∧ F a = none ∧ H a = some (.ins (He.ga K c) dx gs) ∧ gs.map (·.1) = ns ∧ RepVs K io F xs (gs.map (·.2)) ∧ ∀ j, Vl.c j ∈ xs → j < k
  | .fz x => ∃ a, io[k]? = some (some a) ∧ Rep K F x (.ref a)
  | .res => io[k]? = some none
  | .tup xs => ∃ a vs, io[k]? = some (some a) ∧ F a = some (.tup vs) ∧ RepL K F xs vs
  | .tpz xs => ∃ a vs o, io[k]? = some (some a) ∧ F a = some (.frz o (.tup vs)) ∧ o.cls = .type "tuple" ∧ o.dict = none ∧ RepL K F xs vs
  | .dcT ks xs => ∃ a ws, io[k]? = some (some a) ∧ F a = none ∧ H a = some (.dT ((ks.map (List.map kk)).zip ws)) ∧ ks.length = ws.length ∧ RepL K F xs ws
  | .dcN η ks xs => ∃ a es, io[k]? = some (some a) ∧ F a = none ∧ H a = some (DNo η a es) ∧ nkL ks = some (es.map (·.1)) ∧ RepL K F ks (es.map fun e => V.ref e.2.1) ∧ RepL K F xs (es.map (·.2.2))
  | .tbl x q => io[k]? = some (some (lamT K x)) ∧ F (lamT K x) = none ∧ ∃ ps : Array Value, H (lamT K x) = some (.tbl ps) ∧ TriplesOk ps.toList ∧ ∀ (pos : Pos) (cv : Value), codeAmong pos ps.toList = some cv → ∃ c, cv = .ref c ∧ F c = some (LamX.CodeO c q)
  | .dvs xs => ∃ a o η es, io[k]? = some (some a) ∧ F a = some (.frz o (DNo η a es)) ∧ RepL K F xs (es.map (·.2.2))
  | .tblC x q c => (io[k]? = some (some (lamT K x)) ∧ F (lamT K x) = none ∧ ∃ ps : Array Value, H (lamT K x) = some (.tbl ps) ∧ TriplesOk ps.toList ∧ ∀ (pos : Pos) (cv : Value), codeAmong pos ps.toList = some cv → ∃ c, cv = .ref c ∧ F c = some (LamX.CodeO c q)) ∧ F c = some (LamX.CodeO c q)
structure Sta (K : PySem.W.Frag) (io : Io) (F : Hp) (S : Sto) (H : Hp) : Prop where
  len : io.length = S.length
  inj : ∀ (j k : Nat) (a : Addr), io[j]? = some (some a) → io[k]? = some (some a) → j = k
  sub : Same F H
  trk : ∀ (k : Nat) (a : Addr), io[k]? = some (some a) → H a ≠ none
  cel : ∀ (k : Nat) (c : Cell), S[k]? = some c → CellAt K io F H k c
structure Nxt (io : Io) (F H : Hp) (io' : Io) (F' H' : Hp) : Prop where
  han : ∀ (k : Nat) (a : Addr), io[k]? = some (some a) → io'[k]? = some (some a)
  fr : Same F F'
  out : ∀ (a : Addr) (o : HO), H a = some o → (∀ k : Nat, io[k]? ≠ some (some a)) → H' a = some o
  new : ∀ (k : Nat) (a : Addr), io'[k]? = some (some a) → io[k]? = some (some a) ∨ H a = none
  stay : ∀ a : Addr, H' a = none → H a = none
  nf : ∀ a : Addr, F' a ≠ none → F a ≠ none ∨ H a = none ∨ ∃ k : Nat, io[k]? = some (some a)
section
variable {K : PySem.W.Frag} {io io1 io2 : Io} {F F1 F2 H H1 H2 : Hp} {S : Sto}
theorem Nxt.refl : Nxt io F H io F H := ⟨fun _ _ h => h, fun _ _ h => h, fun _ _ h _ => h, fun _ _ h => .inl h, fun _ h => h, fun _ h => .inl h⟩
theorem Nxt.trans (a : Nxt io F H io1 F1 H1) (b : Nxt io1 F1 H1 io2 F2 H2) : Nxt io F H io2 F2 H2 where
  han := fun k x h => b.han k x (a.han k x h)
  fr := a.fr.trans b.fr
  out := fun x o h n => b.out x o (a.out x o h n) fun k e => by
    rcases a.new k x e with q | q
    · exact n k q
    · rw [h] at q; cases q
  new := fun k x h => by
    rcases b.new k x h with q | q
    · exact a.new k x q
    · exact .inr (a.stay x q)
  stay := fun x h => a.stay x (b.stay x h)
  nf := fun x h => by
    rcases b.nf x h with q | q | ⟨k, q⟩
    · exact a.nf x q
    · exact .inr (.inl (a.stay x q))
    · rcases a.new k x q with z | z
      · exact .inr (.inr ⟨k, z⟩)
      · exact .inr (.inl z)
theorem RepV.mono {io' : Io} {F' : Hp} (hi : ∀ (k : Nat) (a : Addr), io[k]? = some (some a) → io'[k]? = some (some a)) (e : Same F F') : ∀ {d : Vl} {v : V}, RepV K io F d v → RepV K io' F' d v
  | .p _, _, h => Rep.mono e h
  | .c k, _, ⟨a, h, r⟩ => ⟨a, hi k a h, r⟩
theorem RepVs.mono {io' : Io} {F' : Hp} (hi : ∀ (k : Nat) (a : Addr), io[k]? = some (some a) → io'[k]? = some (some a)) (e : Same F F') : ∀ {ds : List Vl} {vs : List V}, RepVs K io F ds vs → RepVs K io' F' ds vs
  | [], _, h => h
  | d :: ds, _, ⟨v, r, e1, h1, h2⟩ => ⟨v, r, e1, RepV.mono hi e h1, RepVs.mono hi e h2⟩
theorem RepVs.length : ∀ {xs : List Vl} {vs : List V}, RepVs K io F xs vs → vs.length = xs.length
  | [], _, h => by
    have h' : _ = _ := h
    rw [h']
    rfl
  | x :: xs, vs, h => by
    obtain ⟨v, r, e1, h1, h2⟩ := h
    rw [e1, List.length_cons, List.length_cons, RepVs.length h2]
theorem RepVs.get : ∀ {xs : List Vl} {vs : List V} {i : Nat} {x : Vl}, RepVs K io F xs vs → xs[i]? = some x → ∃ v, vs[i]? = some v ∧ RepV K io F x v
  | [], _, _, _, h, e => by simp at e
  | y :: xs, vs, 0, x, h, e => by
    obtain ⟨v, r, e1, h1, h2⟩ := h
    have : y = x := by simpa using e
    subst this
    subst e1
    exact ⟨v, rfl, h1⟩
  | y :: xs, vs, i + 1, x, h, e => by
    obtain ⟨v, r, e1, h1, h2⟩ := h
    subst e1
    obtain ⟨u, hu, hr⟩ := RepVs.get (i := i) h2 (by simpa using e)
    exact ⟨u, by simpa using hu, hr⟩
theorem RepVs.pure : ∀ {xs : List P} {vs : List V}, RepVs K io F (xs.map Vl.p) vs ↔ RepL K F xs vs
  | [], _ => Iff.rfl
  | x :: xs, vs => by
    constructor
    · rintro ⟨v, r, e1, h1, h2⟩
      exact ⟨v, r, e1, h1, RepVs.pure.mp h2⟩
    · rintro ⟨v, r, e1, h1, h2⟩
      exact ⟨v, r, e1, h1, RepVs.pure.mpr h2⟩

def rd (S : Sto) : Vl → Option P
  | .p x => some x
  | .c k => match S[k]? with
    | some (.lst xs) => some (.lst xs)
    | some (.dct ks xs) => some (.dct ks xs)
    | some (.fz x) => some x
    | some (.tup xs) => some (.tup xs)
    | some (.tpz xs) => some (.tup xs)
    | _ => none
def RepR (K : PySem.W.Frag) (F H : Hp) : P → V → Prop
  | .lst xs, v => ∃ a vs, v = .ref a ∧ H a = some (.lst vs) ∧ RepL K F xs vs
  | .dct ks xs, v => ∃ a kvs, v = .ref a ∧ H a = some (.dK kvs) ∧ RepL K F ks (kvs.map fun q => kV q.1) ∧ RepL K F xs (kvs.map (·.2))
  | x, v => Rep K F x v
theorem Rep.r (e : Same F H) {x : P} {v : V} (h : Rep K F x v) : RepR K F H x v := by
  cases x with
  | lst xs =>
    obtain ⟨a, vs, e1, h1, h2⟩ := h
    exact ⟨a, vs, e1, e _ _ h1, h2⟩
  | dct ks xs =>
    obtain ⟨a, kvs, e1, h1, h2, h3⟩ := h
    exact ⟨a, kvs, e1, e _ _ h1, h2, h3⟩
  | _ => exact h
theorem RepR.now (e : Same F H) {x : P} {v : V} (h : RepR K F H x v) : Rep K H x v := by
  cases x with
  | lst xs =>
    obtain ⟨a, vs, e1, h1, h2⟩ := h
    exact ⟨a, vs, e1, h1, RepL.mono e h2⟩
  | dct ks xs =>
    obtain ⟨a, kvs, e1, h1, h2, h3⟩ := h
    exact ⟨a, kvs, e1, h1, RepL.mono e h2, RepL.mono e h3⟩
  | non => exact h
  | bl _ => exact h
  | int _ => exact h
  | str _ => exact h
  | tup _ => exact Rep.mono e (x := .tup _) h
  | obj _ _ _ => exact Rep.mono e (x := .obj _ _ _) h
  | ty _ => exact h
  | glo _ => exact h
  | raw _ => exact h
  | rwp _ _ => exact Rep.mono e (x := .rwp _ _) h
  | dcl _ _ => exact Rep.mono e (x := .dcl _ _) h
  | scr _ => exact Rep.mono e (x := .scr _) h
theorem Sta.rd (st : Sta K io F S H) {d : Vl} {v : V} {x : P} (h : RepV K io F d v) (e : rd S d = some x) : RepR K F H x v := by
  cases d with
  | p y =>
    have e' : y = x := Option.some.inj e
    subst e'
    exact Rep.r st.sub h
  | c k =>
    obtain ⟨a, ha, rfl⟩ := h
    have e : (match S[k]? with
      | some (.lst xs) => some (P.lst xs)
      | some (.dct ks xs) => some (P.dct ks xs)
      | some (.fz x) => some x
      | some (.tup xs) => some (P.tup xs)
      | some (.tpz xs) => some (P.tup xs)
      | _ => none) = some x := e
    cases hk : S[k]? with
    | none => rw [hk] at e; cases e
    | some c =>
      rw [hk] at e
      cases c with
      | lst xs =>
        have e' : P.lst xs = x := Option.some.inj e
        subst e'
        obtain ⟨b, vs, hb, _, hH, hr⟩ := st.cel k _ hk
        rw [ha] at hb
        cases hb
        exact ⟨a, vs, rfl, hH, hr⟩
      | dct ks xs =>
        have e' : P.dct ks xs = x := Option.some.inj e
        subst e'
        obtain ⟨b, vs, hb, _, hH, hr, hr2⟩ := st.cel k _ hk
        rw [ha] at hb
        cases hb
        exact ⟨a, vs, rfl, hH, hr, hr2⟩
      | fz y =>
        have e' : y = x := Option.some.inj e
        subst e'
        obtain ⟨b, hb, hr⟩ := st.cel k _ hk
        rw [ha] at hb
        cases hb
        exact Rep.r st.sub hr
      | tup xs =>
        have e' : P.tup xs = x := Option.some.inj e
        subst e'
        obtain ⟨b, vs, hb, hF, hr⟩ := st.cel k _ hk
        rw [ha] at hb
        cases hb
        exact ⟨a, vs, rfl, SqT.of hF, hr⟩
      | tpz xs =>
        have e' : P.tup xs = x := Option.some.inj e
        subst e'
        obtain ⟨b, vs, o, hb, hF, _, _, hr⟩ := st.cel k _ hk
        rw [ha] at hb
        cases hb
        exact ⟨a, vs, rfl, .inl (.inr ⟨o, hF⟩), hr⟩
      | _ => cases e
theorem upd_same_of {p : Addr} {o : HO} (hp : H p = none) : Same H (upd H p o) := fun b u e => by
  rw [upd_ne (ne_of_none e hp)]
  exact e
theorem app_none {io T : Io} {k : Nat} (z : io[k]? = some none) : (io ++ T)[k]? = some none := by
  rw [List.getElem?_append_left (List.getElem?_eq_some_iff.mp z).1]
  exact z
theorem CellAt.mono {io' : Io} {F' : Hp} {k : Nat} {c : Cell} (hi : ∀ (k : Nat) (a : Addr), io[k]? = some (some a) → io'[k]? = some (some a)) (hF : Same F F')
    (hn : ∀ a, io[k]? = some (some a) → F a = none → F' a = none) (hH : ∀ a o, io[k]? = some (some a) → H a = some o → H1 a = some o) (h : CellAt K io F H k c) (hres : io[k]? = some none → io'[k]? = some none := by first | exact fun z => z | exact fun z => app_none z) : CellAt K io' F' H1 k c := by
  cases c with
  | lst xs =>
    obtain ⟨a, vs, h1, h2, h3, h4⟩ := h
    exact ⟨a, vs, hi _ _ h1, hn _ h1 h2, hH _ _ h1 h3, RepL.mono hF h4⟩
  | lsv ks =>
    obtain ⟨a, vs, h1, h2, h3, h4, h5⟩ := h
    exact ⟨a, vs, hi _ _ h1, hn _ h1 h2, hH _ _ h1 h3, RepVs.mono hi hF h4, h5⟩
  | dct ks xs =>
    obtain ⟨a, vs, h1, h2, h3, h4, h5⟩ := h
    exact ⟨a, vs, hi _ _ h1, hn _ h1 h2, hH _ _ h1 h3, RepL.mono hF h4, RepL.mono hF h5⟩
  | ins cc ns xs =>
    obtain ⟨a, dx, gs, h1, h2, h3, h4, h5, h6⟩ := h
    exact ⟨a, dx, gs, hi _ _ h1, hn _ h1 h2, hH _ _ h1 h3, h4, RepVs.mono hi hF h5, h6⟩
  | fz x =>
    obtain ⟨a, h1, h2⟩ := h
    exact ⟨a, hi _ _ h1, Rep.mono hF h2⟩
  | res => exact hres h
  | tup xs =>
    obtain ⟨a, vs, h1, h2, h3⟩ := h
    exact ⟨a, vs, hi _ _ h1, hF _ _ h2, RepL.mono hF h3⟩
  | tpz xs =>
    obtain ⟨a, vs, o, h1, h2, h3, h4, h5⟩ := h
    exact ⟨a, vs, o, hi _ _ h1, hF _ _ h2, h3, h4, RepL.mono hF h5⟩
  | dcT ks xs =>
    obtain ⟨a, ws, h1, h2, h3, h4, h5⟩ := h
    exact ⟨a, ws, hi _ _ h1, hn _ h1 h2, hH _ _ h1 h3, h4, RepL.mono hF h5⟩
  | dcN η ks xs =>
    obtain ⟨a, es, h1, h2, h3, h4, h5, h6⟩ := h
    exact ⟨a, es, hi _ _ h1, hn _ h1 h2, hH _ _ h1 h3, h4, RepL.mono hF h5, RepL.mono hF h6⟩
  | tbl p q =>
    obtain ⟨h1, h2, ps, h3, h4, h5⟩ := h
    refine ⟨hi _ _ h1, hn _ h1 h2, ps, hH _ _ h1 h3, h4, fun pos cv e => ?_⟩
    obtain ⟨c, e1, e2⟩ := h5 pos cv e
    exact ⟨c, e1, hF _ _ e2⟩
  | dvs xs =>
    obtain ⟨a, o, η, es, h1, h2, h3⟩ := h
    exact ⟨a, o, η, es, hi _ _ h1, hF _ _ h2, RepL.mono hF h3⟩
  | tblC p q c' =>
    obtain ⟨⟨h1, h2, ps, h3, h4, h5⟩, h6⟩ := h
    refine ⟨⟨hi _ _ h1, hn _ h1 h2, ps, hH _ _ h1 h3, h4, fun pos cv e => ?_⟩, hF _ _ h6⟩
    obtain ⟨c, e1, e2⟩ := h5 pos cv e
    exact ⟨c, e1, hF _ _ e2⟩
theorem CellAt.there {k : Nat} {c : Cell} (h : CellAt K io F H k c) (hc : ∀ x, c ≠ .fz x) (hc2 : c ≠ .res) (hc3 : ∀ xs, c ≠ .tup xs) (hc4 : ∀ xs, c ≠ .dvs xs ∧ c ≠ .tpz xs) : ∃ a o, io[k]? = some (some a) ∧ F a = none ∧ H a = some o := by
  cases c with
  | lst xs => obtain ⟨a, vs, h1, h2, h3, h4⟩ := h; exact ⟨a, _, h1, h2, h3⟩
  | lsv ks => obtain ⟨a, vs, h1, h2, h3, h4⟩ := h; exact ⟨a, _, h1, h2, h3⟩
  | dct ks xs => obtain ⟨a, vs, h1, h2, h3, h4⟩ := h; exact ⟨a, _, h1, h2, h3⟩
  | ins cc ns xs => obtain ⟨a, dx, vs, h1, h2, h3, h4⟩ := h; exact ⟨a, _, h1, h2, h3⟩
  | fz x => exact absurd rfl (hc x)
  | res => exact absurd rfl hc2
  | tup xs => exact absurd rfl (hc3 xs)
  | dcT ks xs => obtain ⟨a, vs, h1, h2, h3, h4⟩ := h; exact ⟨a, _, h1, h2, h3⟩
  | dcN η ks xs => obtain ⟨a, es, h1, h2, h3, h4⟩ := h; exact ⟨a, _, h1, h2, h3⟩
  | tbl x q => obtain ⟨h1, h2, ps, h3, h4⟩ := h; exact ⟨lamT K x, _, h1, h2, h3⟩
  | dvs xs => exact absurd rfl (hc4 xs).1
  | tpz xs => exact absurd rfl (hc4 xs).2
  | tblC x q c => obtain ⟨⟨h1, h2, ps, h3, h4⟩, _⟩ := h; exact ⟨lamT K x, _, h1, h2, h3⟩
theorem Sta.froze (st : Sta K io F S H) {p : Addr} {o : HO} (hp : H p = none) : Sta K io (upd F p o) S (upd H p o) ∧ Nxt io F H io (upd F p o) (upd H p o) := by
  have hF : F p = none := Same.free st.sub hp
  refine ⟨⟨st.len, st.inj, fun b u e => ?_, fun k a e z => ?_, fun k c e => ?_⟩, ⟨fun _ _ h => h, upd_same_of hF, fun b u e _ => ?_, fun _ _ h => .inl h, fun b e => ?_, fun b e => ?_⟩⟩
  · by_cases hb : b = p
    · subst hb
      rw [upd_same] at e ⊢
      exact e
    · rw [upd_ne hb] at e ⊢
      exact st.sub _ _ e
  · have q := st.trk k a e
    by_cases hb : a = p
    · subst hb; exact q hp
    · rw [upd_ne hb] at z; exact q z
  · have h := st.cel k c e
    by_cases hc : (∃ x, c = .fz x) ∨ c = .res ∨ (∃ xs, c = .tup xs) ∨ ∃ xs, c = .dvs xs ∨ c = .tpz xs
    · rcases hc with ⟨x, rfl⟩ | rfl | ⟨xs, rfl⟩ | ⟨xs, rfl | rfl⟩
      · obtain ⟨a, h1, h2⟩ := h
        exact ⟨a, h1, Rep.mono (upd_same_of hF) h2⟩
      · exact h
      · obtain ⟨a, vs, h1, h2, h3⟩ := h
        exact ⟨a, vs, h1, upd_same_of hF _ _ h2, RepL.mono (upd_same_of hF) h3⟩
      · obtain ⟨a, o, η, es, h1, h2, h3⟩ := h
        exact ⟨a, o, η, es, h1, upd_same_of hF _ _ h2, RepL.mono (upd_same_of hF) h3⟩
      · obtain ⟨a, vs, o, h1, h2, h3, h4, h5⟩ := h
        exact ⟨a, vs, o, h1, upd_same_of hF _ _ h2, h3, h4, RepL.mono (upd_same_of hF) h5⟩
    · have hc1 : ∀ x, c ≠ .fz x := fun x z => hc (.inl ⟨x, z⟩)
      have hc2 : c ≠ .res := fun z => hc (.inr (.inl z))
      obtain ⟨a, ob, ha, hn, hh⟩ := h.there hc1 hc2 (fun xs z => hc (.inr (.inr (.inl ⟨xs, z⟩)))) (fun xs => ⟨fun z => hc (.inr (.inr (.inr ⟨xs, .inl z⟩))), fun z => hc (.inr (.inr (.inr ⟨xs, .inr z⟩)))⟩)
      have nap : a ≠ p := ne_of_none hh hp
      refine h.mono (fun _ _ z => z) (upd_same_of hF) (fun b hb hn => ?_) fun b u hb hu => ?_
      · rw [ha] at hb; cases hb
        rw [upd_ne nap]; exact hn
      · rw [ha] at hb; cases hb
        rw [upd_ne nap]; exact hu
  · rw [upd_ne (ne_of_none e hp)]
    exact e
  · by_cases hb : b = p
    · subst hb; exact hp
    · rw [upd_ne hb] at e; exact e
  · by_cases hb : b = p
    · subst hb; exact .inr (.inl hp)
    · rw [upd_ne hb] at e; exact .inl e
theorem Sta.push (st : Sta K io F S H) {p : Addr} {o : HO} {c : Cell} (hp : H p = none) (hc : CellAt K (io ++ [some p]) F (upd H p o) S.length c) :
    Sta K (io ++ [some p]) F (S ++ [c]) (upd H p o) ∧ Nxt io F H (io ++ [some p]) F (upd H p o) := by
  have hF : F p = none := Same.free st.sub hp
  have hi : ∀ (k : Nat) (a : Addr), io[k]? = some (some a) → (io ++ [some p])[k]? = some (some a) := fun k a e => by
    rw [List.getElem?_append_left (List.getElem?_eq_some_iff.mp e).1]
    exact e
  have back : ∀ (k : Nat) (a : Addr), (io ++ [some p])[k]? = some (some a) → io[k]? = some (some a) ∨ (k = io.length ∧ a = p) := fun k a e => by
    rw [List.getElem?_append] at e
    split at e
    · exact .inl e
    · rename_i hk
      have hk2 : k - io.length = 0 := by
        have := (List.getElem?_eq_some_iff.mp e).1
        simp at this
        omega
      rw [hk2] at e
      have e' : p = a := by simpa using e
      exact .inr ⟨by omega, e'.symm⟩
  -- a live cell is not at p
  refine ⟨⟨by rw [List.length_append, List.length_append, st.len]; rfl, fun j k a h1 h2 => ?_, fun b u e => ?_, fun k a e z => ?_, fun k d e => ?_⟩, ⟨hi, fun _ _ h => h, fun b u e _ => ?_, fun k a h => ?_, fun b e => ?_, fun b e => .inl e⟩⟩
  · rcases back j a h1 with z | ⟨rfl, z⟩
    · rcases back k a h2 with y | ⟨rfl, y⟩
      · exact st.inj j k a z y
      · subst y; exact absurd hp (st.trk j _ z)
    · rcases back k a h2 with y | ⟨rfl, y⟩
      · subst z; exact absurd hp (st.trk k _ y)
      · rfl
  · rw [upd_ne (ne_of_none (st.sub _ _ e) hp)]
    exact st.sub _ _ e
  · rcases back k a e with y | ⟨rfl, y⟩
    · have q := st.trk k a y
      by_cases hb : a = p
      · subst hb; exact q hp
      · rw [upd_ne hb] at z; exact q z
    · subst y; rw [upd_same] at z; cases z
  · rw [List.getElem?_append] at e
    split at e
    · have h := st.cel k d e
      by_cases hd : (∃ x, d = .fz x) ∨ d = .res ∨ (∃ xs, d = .tup xs) ∨ ∃ xs, d = .dvs xs ∨ d = .tpz xs
      · rcases hd with ⟨x, rfl⟩ | rfl | ⟨xs, rfl⟩ | ⟨xs, rfl | rfl⟩
        · obtain ⟨a, h1, h2⟩ := h
          exact ⟨a, hi _ _ h1, h2⟩
        · exact app_none h
        · obtain ⟨a, vs, h1, h2, h3⟩ := h
          exact ⟨a, vs, hi _ _ h1, h2, h3⟩
        · obtain ⟨a, o, η, es, h1, h2, h3⟩ := h
          exact ⟨a, o, η, es, hi _ _ h1, h2, h3⟩
        · obtain ⟨a, vs, o, h1, h2, h3, h4, h5⟩ := h
          exact ⟨a, vs, o, hi _ _ h1, h2, h3, h4, h5⟩
      · obtain ⟨a, ob, ha, hn, hh⟩ := h.there (fun x z => hd (.inl ⟨x, z⟩)) (fun z => hd (.inr (.inl z))) (fun xs z => hd (.inr (.inr (.inl ⟨xs, z⟩)))) (fun xs => ⟨fun z => hd (.inr (.inr (.inr ⟨xs, .inl z⟩))), fun z => hd (.inr (.inr (.inr ⟨xs, .inr z⟩)))⟩)
        have nap : a ≠ p := ne_of_none hh hp
        refine h.mono hi (fun _ _ z => z) (fun _ _ hn => hn) fun b u hb hu => ?_
        rw [ha] at hb; cases hb
        rw [upd_ne nap]; exact hu
    · rename_i hk
      have hk2 : k - S.length = 0 := by
        have := (List.getElem?_eq_some_iff.mp e).1
        simp at this
        omega
      rw [hk2] at e
      have e' : c = d := by simpa using e
      subst e'
      have : k = S.length := by omega
      subst this
      exact hc
  · rw [upd_ne (ne_of_none e hp)]
    exact e
  · rcases back k a h with z | ⟨_, rfl⟩
    · exact .inl z
    · exact .inr hp
  · by_cases hb : b = p
    · subst hb; exact hp
    · rw [upd_ne hb] at e; exact e
theorem Sta.side (st : Sta K io F S H) {p : Addr} {o : HO} (hp : ∀ k : Nat, io[k]? ≠ some (some p)) (hF : F p = none) : Sta K io F S (upd H p o) := by
  refine ⟨st.len, st.inj, fun b u e => ?_, fun k a e z => ?_, fun k c e => ?_⟩
  · rw [upd_ne (ne_of_none e hF)]
    exact st.sub _ _ e
  · rw [upd_ne (fun q => by subst q; exact hp k e)] at z
    exact st.trk k a e z
  · refine (st.cel k c e).mono (fun _ _ z => z) (fun _ _ z => z) (fun _ _ hn => hn) fun b u hb hu => ?_
    rw [upd_ne (fun q => by subst q; exact hp k hb)]
    exact hu
def _root_.Mir.nv (S : Sto) : Vl → Vl
  | .p x => .p x
  | .c k => (match S[k]? with
    | some (.fz x) => .p x
    | some (.tup xs) => .p (.tup xs)
    | some (.tpz xs) => .p (.tup xs)
    | _ => .c k)
theorem Sta.nv (st : Sta K io F S H) {d : Vl} {v : V} (r : RepV K io F d v) : RepV K io F (Mir.nv S d) v := by
  cases d with
  | p x => exact r
  | c k =>
    unfold Mir.nv
    dsimp only
    split
    · rename_i x hk
      obtain ⟨a, ha, rfl⟩ := r
      obtain ⟨b, hb, hr⟩ := st.cel k _ hk
      rw [ha] at hb
      cases hb
      exact hr
    · rename_i xs hk
      obtain ⟨a, ha, rfl⟩ := r
      obtain ⟨b, vs, hb, hF, hr⟩ := st.cel k _ hk
      rw [ha] at hb
      cases hb
      exact ⟨a, vs, rfl, SqT.of hF, hr⟩
    · rename_i xs hk
      obtain ⟨a, ha, rfl⟩ := r
      obtain ⟨b, vs, o, hb, hF, _, _, hr⟩ := st.cel k _ hk
      rw [ha] at hb
      cases hb
      exact ⟨a, vs, rfl, .inl (.inr ⟨o, hF⟩), hr⟩
    · exact r
theorem Sta.notIn (st : Sta K io F S H) {p : Addr} (hp : H p = none) : ∀ k : Nat, io[k]? ≠ some (some p) := fun k e => st.trk k p e hp
end
end Mir

namespace Mir
open PySem L2
section
variable {K : PySem.W.Frag} {io io1 io2 : Io} {F F1 F2 H H1 H2 : Hp} {S : Sto}
theorem Sta.write (st : Sta K io F S H) {k : Nat} {a : Addr} {o : HO} {c : Cell} (ha : io[k]? = some (some a)) (hF : F a = none)
    (hc : CellAt K io F (upd H a o) k c) : Sta K io F (S.set k c) (upd H a o) ∧ Nxt io F H io F (upd H a o) := by
  refine ⟨⟨by rw [List.length_set]; exact st.len, st.inj, fun b u e => ?_, fun j b e z => ?_, fun j d e => ?_⟩, ⟨fun _ _ h => h, fun _ _ h => h, fun b u e n => ?_, fun _ _ h => .inl h, fun b e => ?_, fun b e => .inl e⟩⟩
  · rw [upd_ne (ne_of_none e hF)]
    exact st.sub _ _ e
  · by_cases hb : b = a
    · subst hb; rw [upd_same] at z; cases z
    · rw [upd_ne hb] at z; exact st.trk j b e z
  · by_cases hj : j = k
    · subst hj
      rw [List.getElem?_set_self (by
        have := (List.getElem?_eq_some_iff.mp ha).1
        rw [st.len] at this
        exact this)] at e
      cases e
      exact hc
    · rw [List.getElem?_set_ne (Ne.symm hj)] at e
      refine (st.cel j d e).mono (fun _ _ z => z) (fun _ _ z => z) (fun _ _ hn => hn) fun b u hb hu => ?_
      have nb : b ≠ a := fun q => by subst q; exact hj (st.inj j k _ hb ha)
      rw [upd_ne nb]; exact hu
  · rw [upd_ne (fun q => by subst q; exact n k ha)]
    exact e
  · by_cases hb : b = a
    · subst hb; rw [upd_same] at e; cases e
    · rw [upd_ne hb] at e; exact e
theorem Sta.freeze (st : Sta K io F S H) {k : Nat} {a : Addr} {o : HO} {x : P} (ha : io[k]? = some (some a)) (hF : F a = none) (hH : H a = some o) (hx : Rep K (upd F a o) x (.ref a)) :
    Sta K io (upd F a o) (S.set k (.fz x)) H ∧ Nxt io F H io (upd F a o) H := by
  refine ⟨⟨by rw [List.length_set]; exact st.len, st.inj, fun b u e => ?_, st.trk, fun j d e => ?_⟩, ⟨fun _ _ h => h, upd_same_of hF, fun b u e n => e, fun _ _ h => .inl h, fun b e => e, fun b e => by
    by_cases hb : b = a
    · subst hb; exact .inr (.inr ⟨k, ha⟩)
    · rw [upd_ne hb] at e; exact .inl e⟩⟩
  · by_cases hb : b = a
    · subst hb; rw [upd_same] at e; cases e; exact hH
    · rw [upd_ne hb] at e; exact st.sub _ _ e
  · by_cases hj : j = k
    · subst hj
      rw [List.getElem?_set_self (by
        have := (List.getElem?_eq_some_iff.mp ha).1
        rw [st.len] at this
        exact this)] at e
      cases e
      exact ⟨a, ha, hx⟩
    · rw [List.getElem?_set_ne (Ne.symm hj)] at e
      refine (st.cel j d e).mono (fun _ _ z => z) (upd_same_of hF) (fun b hb hn => ?_) fun b u hb hu => hu
      rw [upd_ne (fun q => by subst q; exact hj (st.inj j k _ hb ha))]
      exact hn
theorem Sta.lay (st : Sta K io F S H) {p : Addr} {o : HO} {c : Cell} (hp : ∀ k : Nat, io[k]? ≠ some (some p)) (hF : F p = none) (hH : H p = some o) (hc : CellAt K (io ++ [some p]) F H S.length c) :
    Sta K (io ++ [some p]) F (S ++ [c]) H ∧ ∀ (k : Nat) (a : Addr), io[k]? = some (some a) → (io ++ [some p])[k]? = some (some a) := by
  have hi : ∀ (k : Nat) (a : Addr), io[k]? = some (some a) → (io ++ [some p])[k]? = some (some a) := fun k a e => by
    rw [List.getElem?_append_left (List.getElem?_eq_some_iff.mp e).1]
    exact e
  have back : ∀ (k : Nat) (a : Addr), (io ++ [some p])[k]? = some (some a) → io[k]? = some (some a) ∨ (k = io.length ∧ a = p) := fun k a e => by
    rw [List.getElem?_append] at e
    split at e
    · exact .inl e
    · rename_i hk
      have hk2 : k - io.length = 0 := by
        have := (List.getElem?_eq_some_iff.mp e).1
        simp at this
        omega
      rw [hk2] at e
      have e' : p = a := by simpa using e
      exact .inr ⟨by omega, e'.symm⟩
  refine ⟨⟨by rw [List.length_append, List.length_append, st.len]; rfl, fun j k a h1 h2 => ?_, st.sub, fun k a e z => ?_, fun k d e => ?_⟩, hi⟩
  · rcases back j a h1 with z | ⟨rfl, z⟩
    · rcases back k a h2 with y | ⟨rfl, y⟩
      · exact st.inj j k a z y
      · subst y; exact absurd z (hp j)
    · rcases back k a h2 with y | ⟨rfl, y⟩
      · subst z; exact absurd y (hp k)
      · rfl
  · rcases back k a e with y | ⟨rfl, y⟩
    · exact st.trk k a y z
    · subst y; rw [hH] at z; cases z
  · rw [List.getElem?_append] at e
    split at e
    · exact (st.cel k d e).mono hi (fun _ _ z => z) (fun _ _ hn => hn) fun _ _ _ hu => hu
    · rename_i hk
      have hk2 : k - S.length = 0 := by
        have := (List.getElem?_eq_some_iff.mp e).1
        simp at this
        omega
      rw [hk2] at e
      have e' : c = d := by simpa using e
      subst e'
      have : k = S.length := by omega
      subst this
      exact hc
theorem RepVs.cut {n : Nat} : ∀ {xs : List Vl} {vs : List V}, (∀ j, Vl.c j ∈ xs → j < n) → RepVs K io F xs vs → RepVs K (io.take n) F xs vs
  | [], _, _, h => h
  | x :: xs, vs, hn, ⟨v, r, e1, h1, h2⟩ => by
    refine ⟨v, r, e1, ?_, RepVs.cut (fun j hj => hn j (List.mem_cons_of_mem _ hj)) h2⟩
    cases x with
    | p y => exact h1
    | c j =>
      obtain ⟨a, ha, hv⟩ := h1
      exact ⟨a, by rw [List.getElem?_take_of_lt (hn j List.mem_cons_self)]; exact ha, hv⟩
theorem Sta.cut (st : Sta K io F S H) (n : Nat) : Sta K (io.take n) F (S.take n) H := by
  have hb : ∀ (k : Nat) (a : Addr), (io.take n)[k]? = some (some a) → io[k]? = some (some a) := fun k a e => by
    rw [List.getElem?_take] at e
    split at e
    · exact e
    · cases e
  refine ⟨by rw [List.length_take, List.length_take, st.len], fun j k a h1 h2 => st.inj j k a (hb _ _ h1) (hb _ _ h2), st.sub, fun k a e => st.trk k a (hb _ _ e), fun k c e => ?_⟩
  have hk : k < n := by
    rw [List.getElem?_take] at e
    split at e
    · assumption
    · cases e
  rw [List.getElem?_take_of_lt hk] at e
  have h := st.cel k c e
  have hi : ∀ a, io[k]? = some (some a) → (io.take n)[k]? = some (some a) := fun a z => by rw [List.getElem?_take_of_lt hk]; exact z
  cases c with
  | lst xs =>
    obtain ⟨a, vs, h1, h2, h3, h4⟩ := h
    exact ⟨a, vs, hi _ h1, h2, h3, h4⟩
  | lsv ks =>
    obtain ⟨a, vs, h1, h2, h3, h4, h5⟩ := h
    exact ⟨a, vs, hi _ h1, h2, h3, RepVs.cut (fun j hj => Nat.lt_trans (h5 j hj) hk) h4, h5⟩
  | dct ks xs =>
    obtain ⟨a, vs, h1, h2, h3, h4, h5⟩ := h
    exact ⟨a, vs, hi _ h1, h2, h3, h4, h5⟩
  | ins cc ns xs =>
    obtain ⟨a, dx, gs, h1, h2, h3, h4, h5, h6⟩ := h
    exact ⟨a, dx, gs, hi _ h1, h2, h3, h4, RepVs.cut (fun j hj => Nat.lt_trans (h6 j hj) hk) h5, h6⟩
  | fz x =>
    obtain ⟨a, h1, h2⟩ := h
    exact ⟨a, hi _ h1, h2⟩
  | res =>
    show (io.take n)[k]? = some none
    rw [List.getElem?_take_of_lt hk]
    exact h
  | tup xs =>
    obtain ⟨a, vs, h1, h2, h3⟩ := h
    exact ⟨a, vs, hi _ h1, h2, h3⟩
  | tpz xs =>
    obtain ⟨a, vs, o, h1, h2, h3, h4, h5⟩ := h
    exact ⟨a, vs, o, hi _ h1, h2, h3, h4, h5⟩
  | dcT ks xs =>
    obtain ⟨a, ws, h1, h2, h3, h4, h5⟩ := h
    exact ⟨a, ws, hi _ h1, h2, h3, h4, h5⟩
  | dcN η ks xs =>
    obtain ⟨a, es, h1, h2, h3, h4, h5, h6⟩ := h
    exact ⟨a, es, hi _ h1, h2, h3, h4, h5, h6⟩
  | tbl p q =>
    obtain ⟨h1, h2, h3⟩ := h
    exact ⟨hi _ h1, h2, h3⟩
  | dvs xs =>
    obtain ⟨a, o, η, es, h1, h2, h3⟩ := h
    exact ⟨a, o, η, es, hi _ h1, h2, h3⟩
  | tblC p q c =>
    obtain ⟨⟨h1, h2, h3⟩, h4⟩ := h
    exact ⟨⟨hi _ h1, h2, h3⟩, h4⟩
theorem Nxt.cut {n : Nat} (hn : io.length = n) (a : Nxt io F H io1 F1 H1) : Nxt io F H (io1.take n) F1 H1 where
  han := fun k x e => by
    have hk : k < n := by
      rw [← hn]
      exact (List.getElem?_eq_some_iff.mp e).1
    rw [List.getElem?_take_of_lt hk]
    exact a.han k x e
  fr := a.fr
  out := a.out
  new := fun k x e => by
    rw [List.getElem?_take] at e
    split at e
    · exact a.new k x e
    · cases e
  stay := a.stay
  nf := a.nf
theorem RepV.cut {n : Nat} {d : Vl} {v : V} (hd : ∀ j, d = .c j → j < n) (h : RepV K io F d v) : RepV K (io.take n) F d v := by
  cases d with
  | p y => exact h
  | c j =>
    obtain ⟨a, ha, hv⟩ := h
    exact ⟨a, by rw [List.getElem?_take_of_lt (hd j rfl)]; exact ha, hv⟩
end

def XRep (K : PySem.W.Frag) (F H : Hp) : XD → Option Addr → Prop
  | none, d => d = none
  | some (ns, xs), d => ∃ a gs, d = some a ∧ F a = some (.xd gs) ∧ gs.map (·.1) = ns ∧ RepL K F xs (gs.map (·.2))
def RG {A B : Type} (K : PySem.W.Frag) (R : Io → Hp → A → B → Prop) (r : Res A) (io : Io) (F H : Hp) (Q : B → Hp → Prop) (W : XK) : Prop := match r with
  | .ok d S' => ∀ io' F' H' v, Nxt io F H io' F' H' → Sta K io' F' S' H' → R io' F' d v → Q v H'
  | .exc c x S' => ∀ io' F' H' d, Nxt io F H io' F' H' → Sta K io' F' S' H' → XRep K F' H' x d → W (.ref (He.ga K c)) d H'
  | .bad => False
section
variable {K : PySem.W.Frag} {io : Io} {F H : Hp} {S : Sto} {A B C D : Type} {R : Io → Hp → A → B → Prop} {R' : Io → Hp → C → D → Prop} {Q : D → Hp → Prop} {Q1 : B → Hp → Prop} {W : XK}
theorem RG.step {io1 : Io} {F1 H1 : Hp} {r : Res A} {Q : B → Hp → Prop} (nx : Nxt io F H io1 F1 H1) (h : RG K R r io F H Q W) : RG K R r io1 F1 H1 Q W := by
  cases r with
  | ok a S => exact fun io' F' H' v n s rp => h io' F' H' v (nx.trans n) s rp
  | exc c x S => exact fun io' F' H' d n s rp => h io' F' H' d (nx.trans n) s rp
  | bad => exact h
theorem RG.bind {r : Res A} {f : A → Sto → Res C} (h : RG K R' (r.bind f) io F H Q W)
    (k : ∀ a S1 io1 F1 H1 v, r = .ok a S1 → Nxt io F H io1 F1 H1 → Sta K io1 F1 S1 H1 → R io1 F1 a v → RG K R' (f a S1) io1 F1 H1 Q W → Q1 v H1) : RG K R r io F H Q1 W := by
  cases r with
  | ok a S => exact fun io' F' H' v n s rp => k a S io' F' H' v rfl n s rp (RG.step n h)
  | exc c x S => exact h
  | bad => exact h
theorem RG.val {d : A} {v : B} {Q : B → Hp → Prop} (st : Sta K io F S H) (hr : R io F d v) (h : RG K R (.ok d S) io F H Q W) : Q v H := h io F H v Nxt.refl st hr
end
abbrev RepA (K : PySem.W.Frag) : Io → Hp → Vl → V → Prop := fun io F d v => RepV K io F d v
abbrev RepAs (K : PySem.W.Frag) : Io → Hp → List Vl → List V → Prop := fun io F d v => RepVs K io F d v

def RepO (K : PySem.W.Frag) (io : Io) (F : Hp) : Option Vl → Option V → Prop
  | none, _ => True
  | some d, o => ∃ v, o = some v ∧ RepV K io F d v
def Env (K : PySem.W.Frag) (io : Io) (F : Hp) : En → St → Prop
  | [], s => s = []
  | d :: ds, s => ∃ o r, s = o :: r ∧ RepO K io F d o ∧ Env K io F ds r
section
variable {K : PySem.W.Frag} {io io' : Io} {F F' H H' : Hp}
theorem RepO.mono (hi : ∀ (k : Nat) (a : Addr), io[k]? = some (some a) → io'[k]? = some (some a)) (e : Same F F') : ∀ {d : Option Vl} {o : Option V}, RepO K io F d o → RepO K io' F' d o
  | none, _, _ => trivial
  | some _, _, ⟨v, e1, h⟩ => ⟨v, e1, h.mono hi e⟩
theorem Env.mono (hi : ∀ (k : Nat) (a : Addr), io[k]? = some (some a) → io'[k]? = some (some a)) (e : Same F F') : ∀ {ds : En} {s : St}, Env K io F ds s → Env K io' F' ds s
  | [], _, h => h
  | d :: ds, _, ⟨o, r, e1, h1, h2⟩ => ⟨o, r, e1, h1.mono hi e, Env.mono hi e h2⟩
theorem Env.nxt (n : Nxt io F H io' F' H') {ds : En} {s : St} (h : Env K io F ds s) : Env K io' F' ds s := h.mono n.han n.fr
theorem Env.get : ∀ {ds : En} {s : St} {i : Nat} {d : Vl}, Env K io F ds s → ds[i]? = some (some d) → ∃ v, s[i]? = some (some v) ∧ RepV K io F d v
  | [], _, _, _, _, e => by simp at e
  | x :: ds, s, 0, d, ⟨o, r, e1, h1, h2⟩, e => by
    have e' : x = some d := by simpa using e
    subst e'
    obtain ⟨v, e2, h3⟩ := h1
    subst e1; subst e2
    exact ⟨v, rfl, h3⟩
  | x :: ds, s, i + 1, d, ⟨o, r, e1, h1, h2⟩, e => by
    subst e1
    obtain ⟨v, hv, hr⟩ := Env.get (i := i) h2 (by simpa using e)
    exact ⟨v, by simpa using hv, hr⟩
theorem Env.set {d : Vl} {v : V} (hr : RepV K io F d v) : ∀ {ds : En} {s : St} (i : Nat), Env K io F ds s → Env K io F (ds.set i (some d)) (s.set i (some v))
  | [], _, _, h => by
    have h' : _ = _ := h
    subst h'
    exact rfl
  | x :: ds, s, 0, ⟨o, r, e1, h1, h2⟩ => by
    subst e1
    exact ⟨some v, r, rfl, ⟨v, rfl, hr⟩, h2⟩
  | x :: ds, s, i + 1, ⟨o, r, e1, h1, h2⟩ => by
    subst e1
    exact ⟨o, _, rfl, h1, Env.set hr i h2⟩
theorem Env.unset : ∀ {ds : En} {s : St} (i : Nat) (o : Option V), Env K io F ds s → Env K io F (ds.set i none) (s.set i o)
  | [], _, _, _, h => by
    have h' : _ = _ := h
    subst h'
    exact rfl
  | x :: ds, s, 0, o', ⟨o, r, e1, h1, h2⟩ => by
    subst e1
    exact ⟨o', r, rfl, trivial, h2⟩
  | x :: ds, s, i + 1, o', ⟨o, r, e1, h1, h2⟩ => by
    subst e1
    exact ⟨o, _, rfl, h1, Env.unset i o' h2⟩
theorem Env.start : ∀ {ds : List Vl} {vs : List V} (n : Nat), RepVs K io F ds vs → Env K io F (ds.map some ++ List.replicate n none) (vs.map some ++ List.replicate n none)
  | [], _, n, h => by
    have h' : _ = _ := h
    subst h'
    show Env K io F (List.replicate n none) (List.replicate n none)
    induction n with
    | zero => exact rfl
    | succ n ih => exact ⟨none, _, rfl, trivial, ih⟩
  | d :: ds, _, n, ⟨v, r, e1, h1, h2⟩ => by
    subst e1
    exact ⟨some v, _, rfl, ⟨v, rfl, h1⟩, Env.start n h2⟩
def wipeE (ds : En) : List Nat → En
  | [] => ds
  | v :: vs => (wipeE ds vs).set v none
theorem Env.wipe {ds : En} {s : St} (h : Env K io F ds s) : ∀ vs : List Nat, Env K io F (wipeE ds vs) (L2.wipe s vs)
  | [] => h
  | v :: vs => (Env.wipe h vs).unset v none
end

def OE (X : Cx) (W : WX) (e : Expr) (m : ME) : Prop := ∃ t, PE X e t ∧ ∀ (ρ : En) (S : Sto) (io : Io) (F : Hp) (σ : St) (H : Hp) (Q : VK), Sta X.K io F S H → Env X.K io F ρ σ →
  RG X.K (RepA X.K) (m ρ S) io F H Q (fun c d H' => W c d σ H') → t σ H Q
abbrev MT := En → Sto → Res Bool
def RepB : Io → Hp → Bool → Bool → Prop := fun _ _ b c => b = c
def OT (X : Cx) (W : WX) (e : Expr) (m : MT) : Prop := ∃ t, PT X e t ∧ ∀ (ρ : En) (S : Sto) (io : Io) (F : Hp) (σ : St) (H : Hp) (Q : Bool → Hp → Prop), Sta X.K io F S H → Env X.K io F ρ σ →
  RG X.K RepB (m ρ S) io F H Q (fun c d H' => W c d σ H') → t σ H Q
abbrev MA := En → Sto → Res (List Vl)
def OA (X : Cx) (W : WX) (es : List Expr) (m : MA) : Prop := ∃ t, PA X es t ∧ ∀ (ρ : En) (S : Sto) (io : Io) (F : Hp) (σ : St) (H : Hp) (Q : List V → Hp → Prop), Sta X.K io F S H → Env X.K io F ρ σ →
  RG X.K (RepAs X.K) (m ρ S) io F H Q (fun c d H' => W c d σ H') → t σ H Q
inductive Fl where
  | nx (ρ : En) | rt (d : Vl) | bk (ρ : En) | ct (ρ : En) | xc (ρ : En) (c : Str) (d : XD)
inductive RF where
  | ok (f : Fl) (S : Sto)
  | bad
abbrev MS := En → Sto → RF
def RS (K : PySem.W.Frag) (r : RF) (io : Io) (F H : Hp) (D : Ends) (W : WX) : Prop := match r with
  | .ok (.nx ρ) S' => ∀ io' F' H' σ', Nxt io F H io' F' H' → Sta K io' F' S' H' → Env K io' F' ρ σ' → D.nx σ' H'
  | .ok (.rt d) S' => ∀ io' F' H' v, Nxt io F H io' F' H' → Sta K io' F' S' H' → RepV K io' F' d v → D.rt v H'
  | .ok (.bk ρ) S' => ∀ io' F' H' σ', Nxt io F H io' F' H' → Sta K io' F' S' H' → Env K io' F' ρ σ' → D.bk σ' H'
  | .ok (.ct ρ) S' => ∀ io' F' H' σ', Nxt io F H io' F' H' → Sta K io' F' S' H' → Env K io' F' ρ σ' → D.ct σ' H'
  | .ok (.xc ρ c x) S' => ∀ io' F' H' d σ', Nxt io F H io' F' H' → Sta K io' F' S' H' → Env K io' F' ρ σ' → XRep K F' H' x d → W (.ref (He.ga K c)) d σ' H'
  | .bad => False
def OS (X : Cx) (W : WX) (st : Stmt) (m : MS) : Prop := ∃ t, PS X st t ∧ ∀ (ρ : En) (S : Sto) (io : Io) (F : Hp) (σ : St) (H : Hp) (D : Ends), Sta X.K io F S H → Env X.K io F ρ σ →
  RS X.K (m ρ S) io F H D W → t D σ H
def OSs (X : Cx) (W : WX) (st : List Stmt) (m : MS) : Prop := ∃ t, PSs X st t ∧ ∀ (ρ : En) (S : Sto) (io : Io) (F : Hp) (σ : St) (H : Hp) (D : Ends), Sta X.K io F S H → Env X.K io F ρ σ →
  RS X.K (m ρ S) io F H D W → t D σ H
def Res.go {A : Type} (r : Res A) (ρ : En) (f : A → Sto → RF) : RF := match r with
  | .ok a S => f a S
  | .exc c x S => .ok (.xc ρ c x) S
  | .bad => .bad
section
variable {K : PySem.W.Frag} {io : Io} {F H : Hp} {S : Sto} {A B : Type} {R : Io → Hp → A → B → Prop} {Q1 : B → Hp → Prop} {W : WX} {D : Ends} {ρ : En} {σ : St}
theorem RS.step {io1 : Io} {F1 H1 : Hp} {r : RF} (nx : Nxt io F H io1 F1 H1) (h : RS K r io F H D W) : RS K r io1 F1 H1 D W := by
  cases r with
  | ok f S =>
    cases f with
    | nx ρ => exact fun io' F' H' v n s rp => h io' F' H' v (nx.trans n) s rp
    | rt ρ => exact fun io' F' H' v n s rp => h io' F' H' v (nx.trans n) s rp
    | bk ρ => exact fun io' F' H' v n s rp => h io' F' H' v (nx.trans n) s rp
    | ct ρ => exact fun io' F' H' v n s rp => h io' F' H' v (nx.trans n) s rp
    | xc ρ c x => exact fun io' F' H' d v n s rp xr => h io' F' H' d v (nx.trans n) s rp xr
  | bad => exact h
theorem RS.go {r : Res A} {f : A → Sto → RF} (en : Env K io F ρ σ) (h : RS K (r.go ρ f) io F H D W)
    (k : ∀ a S1 io1 F1 H1 v, r = .ok a S1 → Nxt io F H io1 F1 H1 → Sta K io1 F1 S1 H1 → R io1 F1 a v → RS K (f a S1) io1 F1 H1 D W → Q1 v H1) : RG K R r io F H Q1 (fun c d H' => W c d σ H') := by
  cases r with
  | ok a S => exact fun io' F' H' v n s rp => k a S io' F' H' v rfl n s rp (RS.step n h)
  | exc c x S => exact fun io' F' H' d n s xr => h io' F' H' d σ n s (en.nxt n) xr
  | bad => exact h
end
end Mir

namespace Mir
open PySem L2

def eVar (i : Nat) : ME := fun ρ S => match ρ[i]? with
  | some (some d) => .ok d S
  | _ => .bad
def eC (x : P) : ME := fun _ S => .ok (.p x) S
def op1 (f : P → Option P) (x : Vl) (S : Sto) : Res Vl := match rd S x with
  | some x => (match f x with
    | some z => .ok (.p z) S
    | none => .bad)
  | none => .bad
def op2 (f : P → P → Option P) (x y : Vl) (S : Sto) : Res Vl := match rd S x, rd S y with
  | some x, some y => (match f x y with
    | some z => .ok (.p z) S
    | none => .bad)
  | _, _ => .bad
def eUn (f : P → Option P) (a : ME) : ME := fun ρ S => (a ρ S).bind fun x S1 => op1 f x S1
def eBin (f : P → P → Option P) (a b : ME) : ME := fun ρ S => (a ρ S).bind fun x S1 => (b ρ S1).bind fun y S2 => op2 f x y S2
def tst (x : Vl) (S : Sto) : Res Bool := match x with
  | .p (.bl b) => .ok b S
  | _ => .bad
def tVal (a : ME) : MT := fun ρ S => (a ρ S).bind tst
def tAndM (a b : MT) : MT := fun ρ S => (a ρ S).bind fun x S1 => match x with
  | true => b ρ S1
  | false => .ok false S1
def tOrM (a b : MT) : MT := fun ρ S => (a ρ S).bind fun x S1 => match x with
  | true => .ok true S1
  | false => b ρ S1
def tNotM (a : MT) : MT := fun ρ S => (a ρ S).bind fun x S1 => .ok (!x) S1
def eAndM (a b : ME) : ME := fun ρ S => (a ρ S).bind fun x S1 => (tst x S1).bind fun c S2 => match c with
  | true => b ρ S2
  | false => .ok (.p (.bl false)) S2
def eOrM (a b : ME) : ME := fun ρ S => (a ρ S).bind fun x S1 => (tst x S1).bind fun c S2 => match c with
  | true => .ok (.p (.bl true)) S2
  | false => b ρ S2
def eNotM (a : ME) : ME := fun ρ S => (a ρ S).bind fun x S1 => (tst x S1).bind fun c S2 => .ok (.p (.bl (!c))) S2
def eIfM (t : MT) (a b : ME) : ME := fun ρ S => (t ρ S).bind fun x S1 => match x with
  | true => a ρ S1
  | false => b ρ S1
def aNil : MA := fun _ S => .ok [] S
def aCons (a : ME) (r : MA) : MA := fun ρ S => (a ρ S).bind fun x S1 => (r ρ S1).bind fun xs S2 => .ok (x :: xs) S2
def seqR (f : Vl → Sto → Res P) : List Vl → Sto → Res (List P)
  | [], S => .ok [] S
  | x :: xs, S => (f x S).bind fun y S1 => (seqR f xs S1).bind fun ys S2 => .ok (y :: ys) S2
def frzN : Nat → Vl → Sto → Res P
  | 0, x, S => (match x with
    | .p x => .ok x S
    | .c _ => .bad)
  | n + 1, x, S => match x with
    | .p x => .ok x S
    | .c k => match S[k]? with
      | some (.lst xs) => .ok (.lst xs) (S.set k (.fz (.lst xs)))
      | some (.dct ks xs) => .ok (.dct ks xs) (S.set k (.fz (.dct ks xs)))
      | some (.fz x) => .ok x S
      | some (.tup xs) => .ok (.tup xs) S
      | some (.tpz xs) => .ok (.tup xs) S
      | some (.lsv xs) => (seqR (frzN n) xs S).bind fun ys S1 => (match S1[k]? with
        | some (.lsv _) => .ok (.lst ys) (S1.set k (.fz (.lst ys)))
        | _ => .bad)
      | some (.ins c ns xs) => (seqR (frzN n) xs S).bind fun ys S1 => (match S1[k]? with
        | some (.ins c' ns' _) => if c' = c ∧ ns' = ns then .ok (.obj c ns ys) (S1.set k (.fz (.obj c ns ys))) else .bad
        | _ => .bad)
      | _ => .bad
def frz (x : Vl) (S : Sto) : Res P := frzN 3 x S
def frzs (xs : List Vl) (S : Sto) : Res (List P) := seqR frz xs S
@[simp] theorem frz_p (x : P) (S : Sto) : frz (.p x) S = .ok x S := rfl
@[simp] theorem frzs_p : ∀ (xs : List P) (S : Sto), frzs (xs.map Vl.p) S = .ok xs S
  | [], S => rfl
  | x :: xs, S => by
    show ((frz (.p x) S).bind fun y S1 => (frzs (xs.map Vl.p) S1).bind fun ys S2 => Res.ok (y :: ys) S2) = _
    rw [frz_p]
    show ((frzs (xs.map Vl.p) S).bind fun ys S2 => Res.ok (x :: ys) S2) = _
    rw [frzs_p xs S]
    rfl
theorem seqR_nox {f : Vl → Sto → Res P} (hf : ∀ x S c d S', f x S ≠ .exc c d S') : ∀ (xs : List Vl) (S : Sto) (c : Str) (d : XD) (S' : Sto), seqR f xs S ≠ .exc c d S'
  | [], S, c, d, S', e => nomatch e
  | x :: xs, S, c, d, S', e => by
    have e : ((f x S).bind fun y S1 => (seqR f xs S1).bind fun ys S2 => Res.ok (y :: ys) S2) = .exc c d S' := e
    cases q : f x S with
    | bad => rw [q] at e; cases e
    | exc c' d' S1 => exact hf _ _ _ _ _ q
    | ok y S1 =>
      rw [q] at e
      have e : ((seqR f xs S1).bind fun ys S2 => Res.ok (y :: ys) S2) = .exc c d S' := e
      cases q2 : seqR f xs S1 with
      | bad => rw [q2] at e; cases e
      | exc c' d' S2 => exact seqR_nox hf xs S1 c' d' S2 q2
      | ok ys S2 => rw [q2] at e; cases e
theorem frzN_nox : ∀ (n : Nat) (x : Vl) (S : Sto) (c : Str) (d : XD) (S' : Sto), frzN n x S ≠ .exc c d S'
  | 0, .p _, S, c, d, S', e => nomatch e
  | 0, .c _, S, c, d, S', e => nomatch e
  | n + 1, .p _, S, c, d, S', e => nomatch e
  | n + 1, .c k, S, c, d, S', e => by
    unfold frzN at e
    dsimp only at e
    split at e
    · cases e
    · cases e
    · cases e
    · cases e
    · cases e
    · rename_i xs _
      cases q : seqR (frzN n) xs S with
      | bad => rw [q] at e; cases e
      | exc c' d' S1 => exact seqR_nox (frzN_nox n) _ _ _ _ _ q
      | ok ys S1 =>
        rw [q] at e
        have e : (match S1[k]? with
          | some (.lsv _) => Res.ok (P.lst ys) (S1.set k (.fz (.lst ys)))
          | _ => .bad) = .exc c d S' := e
        split at e <;> cases e
    · rename_i c2 ns xs _
      cases q : seqR (frzN n) xs S with
      | bad => rw [q] at e; cases e
      | exc c' d' S1 => exact seqR_nox (frzN_nox n) _ _ _ _ _ q
      | ok ys S1 =>
        rw [q] at e
        have e : (match S1[k]? with
          | some (.ins c' ns' _) => if c' = c2 ∧ ns' = ns then Res.ok (P.obj c2 ns ys) (S1.set k (.fz (.obj c2 ns ys))) else .bad
          | _ => .bad) = .exc c d S' := e
        split at e
        · split at e <;> cases e
        · cases e
    · cases e
theorem frz_nox (x : Vl) (S : Sto) (c : Str) (d : XD) (S' : Sto) : frz x S ≠ .exc c d S' := frzN_nox 3 x S c d S'
def eTup (a : MA) : ME := fun ρ S => (a ρ S).bind fun xs S1 => (frzs xs S1).bind fun ys S2 => if ys.length ≤ 100000 then .ok (.p (.tup ys)) S2 else .bad
def eLst (a : MA) : ME := fun ρ S => (a ρ S).bind fun xs S1 => (frzs xs S1).bind fun ys S2 => if ys.length ≤ 100000 then .ok (.p (.lst ys)) S2 else .bad
def eLstC (a : MA) : ME := fun ρ S => (a ρ S).bind fun xs S1 => (frzs xs S1).bind fun ys S2 => if ys.length ≤ 100000 then .ok (.c S2.length) (S2 ++ [.lst ys]) else .bad

def UnOk (K : PySem.W.Frag) (r : V → Hp → VK → Prop) (f : P → Option P) : Prop := ∀ (io : Io) (F : Hp) (S : Sto) (H : Hp) (x : P) (v : V) (z : P) (Q : VK), Sta K io F S H → RepR K F H x v → f x = some z →
  (∀ F' H' u, Nxt io F H io F' H' → Sta K io F' S H' → Rep K F' z u → Q u H') → r v H Q
def BinOk (K : PySem.W.Frag) (r : R2) (f : P → P → Option P) : Prop := ∀ (io : Io) (F : Hp) (S : Sto) (H : Hp) (x y : P) (v w : V) (z : P) (Q : VK), Sta K io F S H → RepR K F H x v → RepR K F H y w → f x y = some z →
  (∀ F' H' u, Nxt io F H io F' H' → Sta K io F' S H' → Rep K F' z u → Q u H') → r v w H Q
section
variable {X : Cx} {W : WX} {a b c : Expr} {ma mb mc : ME} {pos : Pos} {ta tb : MT} {es : List Expr} {mas : MA}
theorem Sta.op2 {K : PySem.W.Frag} {io : Io} {F : Hp} {S : Sto} {H : Hp} {r : R2} {f : P → P → Option P} {d d2 : Vl} {v v2 : V} {Q : VK} {E : XK} (hf : BinOk K r f) (st : Sta K io F S H) (r1 : RepV K io F d v) (r2 : RepV K io F d2 v2)
    (h : RG K (RepA K) (Mir.op2 f d d2 S) io F H Q E) : r v v2 H Q := by
  unfold Mir.op2 at h
  cases e1 : Mir.rd S d with
  | none => rw [e1] at h; exact h.elim
  | some x =>
    cases e2 : Mir.rd S d2 with
    | none => rw [e1, e2] at h; exact h.elim
    | some y =>
      rw [e1, e2] at h
      dsimp only at h
      cases e3 : f x y with
      | none => rw [e3] at h; exact h.elim
      | some z =>
        rw [e3] at h
        exact hf io F S H x y v v2 z Q st (st.rd r1 e1) (st.rd r2 e2) e3 fun F' H' u n s rp => h io F' H' u n s rp
theorem Sta.op1 {K : PySem.W.Frag} {io : Io} {F : Hp} {S : Sto} {H : Hp} {r : V → Hp → VK → Prop} {f : P → Option P} {d : Vl} {v : V} {Q : VK} {E : XK} (hf : UnOk K r f) (st : Sta K io F S H) (r1 : RepV K io F d v)
    (h : RG K (RepA K) (Mir.op1 f d S) io F H Q E) : r v H Q := by
  unfold Mir.op1 at h
  cases e1 : Mir.rd S d with
  | none => rw [e1] at h; exact h.elim
  | some x =>
    rw [e1] at h
    dsimp only at h
    cases e3 : f x with
    | none => rw [e3] at h; exact h.elim
    | some z =>
      rw [e3] at h
      exact hf io F S H x v z Q st (st.rd r1 e1) e3 fun F' H' u n s rp => h io F' H' u n s rp
theorem oe_var (i : Nat) {x : Str} (hN : X.N[i]? = some x := by rfl) (hv : Vis X.env.scope x := by first | exact Or.inl rfl | exact Or.inr (Or.inl rfl) | exact Or.inr (Or.inr rfl)) (hd : (x == ("__debug__" : Str)) = false := by decide)
    (hcd : (x == ("__classdict__" : Str)) = false := by decide) : OE X W (.Name x pos) (eVar i) := by
  refine ⟨_, pe_var hN hv hd hcd, fun ρ S io F σ H Q st en h => ?_⟩
  unfold eVar at h
  cases e : ρ[i]? with
  | none => rw [e] at h; exact h.elim
  | some o =>
    cases o with
    | none => rw [e] at h; exact h.elim
    | some d =>
      rw [e] at h
      obtain ⟨v, hv, hr⟩ := en.get e
      exact ⟨v, hv, RG.val st hr h⟩
theorem oe_c {e : Expr} {v : V} {x : P} (h : PE X e (tC v)) (hr : ∀ F, Rep X.K F x v) : OE X W e (eC x) :=
  ⟨_, h, fun ρ S io F σ H Q st en h => RG.val (R := RepA X.K) (d := .p x) st (hr F) h⟩
theorem oe_int {i : Int} {j : Nat} : OE X W (.Constant (.int i) j pos) (eC (.int i)) := oe_c pe_int fun _ => rfl
theorem oe_bl {i : Bool} {j : Nat} : OE X W (.Constant (.bool i) j pos) (eC (.bl i)) := oe_c pe_bl fun _ => rfl
theorem oe_non {j : Nat} : OE X W (.Constant .none j pos) (eC .non) := oe_c pe_non fun _ => rfl
theorem strOf_toList (x : Str) : strOf x.cps.toList = x := by
  unfold strOf
  rw [Array.toArray_toList]
theorem oe_str {x : Str} {j : Nat} {xs : List Nat} (h : x.cps.toList = xs := by rfl) : OE X W (.Constant (.str x) j pos) (eC (.str xs)) := oe_c pe_str fun _ => by
  show V.str x = V.str (strOf xs)
  rw [← h, strOf_toList]
theorem oe_glob {x : Str} {v : V} {u : Value} {p : P} (hm : X.mg x = some u) (r : RelV v u) (hp : ∀ F, Rep X.K F p v) (hg : Gl X x := by rfl) (hd : (x == ("__debug__" : Str)) = false := by decide) : OE X W (.Name x pos) (eC p) := oe_c (pe_glob hg hm r hd) hp
theorem oe_bltn {x : Str} {v : V} {u : Value} {p : P} (hm : X.mg x = none) (hv : bootBuiltins x = some u) (r : RelV v u) (hp : ∀ F, Rep X.K F p v) (hg : Gl X x := by rfl) (hn : x ≠ "__name__" := by decide) (hd : (x == ("__debug__" : Str)) = false := by decide) : OE X W (.Name x pos) (eC p) := oe_c (pe_bltn hg hm hv r hn hd) hp
theorem oe_bin {op : Operator} {r : R2} {f : P → P → Option P} (ho : OpR X (binaryOp op) r) (hf : BinOk X.K r f) (ha : OE X W a ma) (hb : OE X W b mb) : OE X W (.BinOp a op b pos) (eBin f ma mb) := by
  obtain ⟨ta, pa, ha⟩ := ha
  obtain ⟨tb, pb, hb⟩ := hb
  refine ⟨tOp r ta tb, pe_op ho pa pb, fun ρ S io F σ H Q st en h => ?_⟩
  refine ha ρ S io F σ H _ st en (RG.bind h fun d S1 io1 F1 H1 v e1 n1 s1 r1 h1 => ?_)
  refine hb ρ S1 io1 F1 σ H1 _ s1 (en.nxt n1) (RG.bind h1 fun d2 S2 io2 F2 H2 v2 e2 n2 s2 r2 h2 => ?_)
  exact s2.op2 hf (r1.mono n2.han n2.fr) r2 h2
theorem oe_cmp {op : CmpOp} {r : R2} {f : P → P → Option P} (ho : OpR X (compareOp op) r) (hf : BinOk X.K r f) (ha : OE X W a ma) (hb : OE X W b mb) (hm : behindInMarks op b = false := by first | exact nomark _ | rfl) : OE X W (.Compare a [op] [b] pos) (eBin f ma mb) := by
  obtain ⟨ta, pa, ha⟩ := ha
  obtain ⟨tb, pb, hb⟩ := hb
  refine ⟨tOp r ta tb, pe_cmpR ho pa pb hm, fun ρ S io F σ H Q st en h => ?_⟩
  refine ha ρ S io F σ H _ st en (RG.bind h fun d S1 io1 F1 H1 v e1 n1 s1 r1 h1 => ?_)
  refine hb ρ S1 io1 F1 σ H1 _ s1 (en.nxt n1) (RG.bind h1 fun d2 S2 io2 F2 H2 v2 e2 n2 s2 r2 h2 => ?_)
  exact s2.op2 hf (r1.mono n2.han n2.fr) r2 h2
theorem tst_go {K : PySem.W.Frag} {io : Io} {F : Hp} {S : Sto} {H : Hp} {d : Vl} {v : V} {Q : Bool → Hp → Prop} {E : XK} (st : Sta K io F S H) (r1 : RepV K io F d v) (h : RG K RepB (tst d S) io F H Q E) : ∃ k, v = .bl k ∧ Q k H := by
  cases d with
  | c k => exact h.elim
  | p x =>
    cases x with
    | bl b => exact ⟨b, r1, RG.val (R := RepB) (d := b) (v := b) st rfl h⟩
    | _ => exact h.elim
theorem ot_cmp {op : CmpOp} {r : R2} {f : P → P → Option P} (ho : OpR X (compareOp op) r) (hf : BinOk X.K r f) (ha : OE X W a ma) (hb : OE X W b mb) (hm : behindInMarks op b = false := by first | exact nomark _ | rfl) : OT X W (.Compare a [op] [b] pos) (tVal (eBin f ma mb)) := by
  obtain ⟨ta, pa, ha⟩ := ha
  obtain ⟨tb, pb, hb⟩ := hb
  refine ⟨tTest (tOp r ta tb), pt_cmpR ho pa pb hm, fun ρ S io F σ H Q st en h => ?_⟩
  have h : RG X.K RepB ((ma ρ S).bind fun x S1 => ((mb ρ S1).bind fun y S2 => op2 f x y S2).bind tst) io F H Q (fun c d H' => W c d σ H') := by
    unfold tVal eBin at h
    cases q : ma ρ S with
    | ok d S1 => rw [q] at h; exact h
    | exc c x S1 => rw [q] at h; exact h
    | bad => rw [q] at h; exact h
  refine ha ρ S io F σ H _ st en (RG.bind h fun d S1 io1 F1 H1 v e1 n1 s1 r1 h1 => ?_)
  have h1 : RG X.K RepB ((mb ρ S1).bind fun y S2 => (op2 f d y S2).bind tst) io1 F1 H1 Q (fun c d H' => W c d σ H') := by
    cases q : mb ρ S1 with
    | ok d S1 => rw [q] at h1; exact h1
    | exc c x S1 => rw [q] at h1; exact h1
    | bad => rw [q] at h1; exact h1
  refine hb ρ S1 io1 F1 σ H1 _ s1 (en.nxt n1) (RG.bind h1 fun d2 S2 io2 F2 H2 v2 e2 n2 s2 r2 h2 => ?_)
  refine s2.op2 (E := fun c d H' => W c d σ H') hf (r1.mono n2.han n2.fr) r2 (RG.bind h2 fun d3 S3 io3 F3 H3 v3 e3 n3 s3 r3 h3 => ?_)
  exact tst_go s3 r3 h3
theorem ot_val {e : Expr} {m : ME} (he : OE X W e m) (hs : ∀ whole, isTrue e X.env whole = (do let v ← whole; standAt e.pos; holding [v] (truthy v)) := by intro _; rfl) : OT X W e (tVal m) := by
  obtain ⟨t, p, he⟩ := he
  refine ⟨tB t, pt_val p hs, fun ρ S io F σ H Q st en h => ?_⟩
  exact he ρ S io F σ H _ st en (RG.bind h fun d S1 io1 F1 H1 v e1 n1 s1 r1 h1 => tst_go s1 r1 h1)
theorem ot_not (ha : OT X W a ta) : OT X W (.UnaryOp .Not a pos) (tNotM ta) := by
  obtain ⟨t, p, ha⟩ := ha
  refine ⟨_, pt_not p, fun ρ S io F σ H Q st en h => ?_⟩
  refine ha ρ S io F σ H _ st en (RG.bind h fun d S1 io1 F1 H1 v e1 n1 s1 r1 h1 => ?_)
  cases r1
  exact RG.val (R := RepB) (d := !d) (v := !d) s1 rfl h1
def OW (X : Cx) (W : WX) (e : Expr) (m : MT) : Prop := ∃ t, PW X e t ∧ ∀ (ρ : En) (S : Sto) (io : Io) (F : Hp) (σ : St) (H : Hp) (Q : Bool → Hp → Prop), Sta X.K io F S H → Mir.Env X.K io F ρ σ →
  RG X.K RepB (m ρ S) io F H Q (fun c d H' => W c d σ H') → t σ H Q
theorem ot_w {e : Expr} {m : MT} (h : OW X W e m) : OT X W e m := by
  obtain ⟨t, p, h⟩ := h
  exact ⟨t, p.pt, h⟩
theorem ow_and1 (ha : OT X W a ta) : OW X W (.BoolOp .And [a] pos) ta := by
  obtain ⟨t, p, ha⟩ := ha
  exact ⟨t, pw_and1 p, ha⟩
theorem ow_or1 (ha : OT X W a ta) : OW X W (.BoolOp .Or [a] pos) ta := by
  obtain ⟨t, p, ha⟩ := ha
  exact ⟨t, pw_or1 p, ha⟩
theorem ow_and {rest : List Expr} (ha : OT X W a ta) (hb : OW X W (.BoolOp .And (b :: rest) pos) tb) : OW X W (.BoolOp .And (a :: b :: rest) pos) (tAndM ta tb) := by
  obtain ⟨t, p, ha⟩ := ha
  obtain ⟨u, q, hb⟩ := hb
  refine ⟨_, pw_and p q, fun ρ S io F σ H Q st en h => ?_⟩
  refine ha ρ S io F σ H _ st en (RG.bind h fun d S1 io1 F1 H1 v e1 n1 s1 r1 h1 => ?_)
  cases r1
  cases d with
  | true => exact iteT (hb ρ S1 io1 F1 σ H1 Q s1 (en.nxt n1) h1)
  | false => exact iteF (RG.val (R := RepB) (d := false) (v := false) s1 rfl h1)
theorem ow_or {rest : List Expr} (ha : OT X W a ta) (hb : OW X W (.BoolOp .Or (b :: rest) pos) tb) : OW X W (.BoolOp .Or (a :: b :: rest) pos) (tOrM ta tb) := by
  obtain ⟨t, p, ha⟩ := ha
  obtain ⟨u, q, hb⟩ := hb
  refine ⟨_, pw_or p q, fun ρ S io F σ H Q st en h => ?_⟩
  refine ha ρ S io F σ H _ st en (RG.bind h fun d S1 io1 F1 H1 v e1 n1 s1 r1 h1 => ?_)
  cases r1
  cases d with
  | true => exact iteT (RG.val (R := RepB) (d := true) (v := true) s1 rfl h1)
  | false => exact iteF (hb ρ S1 io1 F1 σ H1 Q s1 (en.nxt n1) h1)
theorem oe_one {op} (ha : OE X W a ma) : OE X W (.BoolOp op [a] pos) ma := by
  obtain ⟨t, p, ha⟩ := ha
  exact ⟨t, pe_one p, ha⟩
theorem tst_bind {K : PySem.W.Frag} {io : Io} {F : Hp} {S : Sto} {H : Hp} {d : Vl} {v : V} {g : Bool → Sto → Res Vl} {Q : VK} {E : XK} (r1 : RepV K io F d v) (h : RG K (RepA K) ((tst d S).bind g) io F H Q E) : ∃ c, d = .p (.bl c) ∧ v = .bl c ∧ RG K (RepA K) (g c S) io F H Q E := by
  cases d with
  | c k => exact h.elim
  | p x =>
    cases x with
    | bl b => exact ⟨b, rfl, r1, h⟩
    | _ => exact h.elim
theorem oe_and {rest : List Expr} (ha : OE X W a ma) (hb : OE X W (.BoolOp .And (b :: rest) pos) mb) : OE X W (.BoolOp .And (a :: b :: rest) pos) (eAndM ma mb) := by
  obtain ⟨t, p, ha⟩ := ha
  obtain ⟨u, q, hb⟩ := hb
  refine ⟨_, pe_and p q, fun ρ S io F σ H Q st en h => ?_⟩
  refine ha ρ S io F σ H _ st en (RG.bind h fun d S1 io1 F1 H1 v e1 n1 s1 r1 h1 => ?_)
  obtain ⟨c, _, hv, h2⟩ := tst_bind r1 h1
  refine ⟨c, hv, ?_⟩
  cases c with
  | true => exact iteT (hb ρ S1 io1 F1 σ H1 Q s1 (en.nxt n1) h2)
  | false => exact iteF (RG.val (R := RepA X.K) (d := .p (.bl false)) s1 rfl h2)
theorem oe_if (hc : OT X W c ta) (ha : OE X W a ma) (hb : OE X W b mb) : OE X W (.IfExp c a b pos) (eIfM ta ma mb) := by
  obtain ⟨t, p, hc⟩ := hc
  obtain ⟨u, q, ha⟩ := ha
  obtain ⟨u2, q2, hb⟩ := hb
  refine ⟨_, pe_ifExp p q q2, fun ρ S io F σ H Q st en h => ?_⟩
  refine hc ρ S io F σ H _ st en (RG.bind h fun d S1 io1 F1 H1 v e1 n1 s1 r1 h1 => ?_)
  cases r1
  cases d with
  | true => exact iteT (ha ρ S1 io1 F1 σ H1 Q s1 (en.nxt n1) h1)
  | false => exact iteF (hb ρ S1 io1 F1 σ H1 Q s1 (en.nxt n1) h1)
theorem oe_un {op : UnaryOp} {r : V → Hp → VK → Prop} {f : P → Option P} (ho : UnR X (unaryOp op) r) (hf : UnOk X.K r f) (ha : OE X W a ma) : OE X W (.UnaryOp op a pos) (eUn f ma) := by
  obtain ⟨t, p, ha⟩ := ha
  refine ⟨_, pe_un ho p, fun ρ S io F σ H Q st en h => ?_⟩
  exact ha ρ S io F σ H _ st en (RG.bind h fun d S1 io1 F1 H1 v e1 n1 s1 r1 h1 => s1.op1 hf r1 h1)
theorem oa_nil : OA X W [] aNil := ⟨_, pa_nil, fun ρ S io F σ H Q st en h => RG.val (R := RepAs X.K) (d := []) (v := []) st rfl h⟩
theorem oa_cons (ha : OE X W a ma) (hr : OA X W es mas) (hs : starEach (a :: es) X.env = (false, eval a X.env) :: starEach es X.env := by rfl) : OA X W (a :: es) (aCons ma mas) := by
  obtain ⟨t, p, ha⟩ := ha
  obtain ⟨u, q, hr⟩ := hr
  refine ⟨_, pa_cons p q hs, fun ρ S io F σ H Q st en h => ?_⟩
  refine ha ρ S io F σ H _ st en (RG.bind h fun d S1 io1 F1 H1 v e1 n1 s1 r1 h1 => ?_)
  refine hr ρ S1 io1 F1 σ H1 _ s1 (en.nxt n1) (RG.bind h1 fun d2 S2 io2 F2 H2 v2 e2 n2 s2 r2 h2 => ?_)
  exact RG.val (R := RepAs X.K) (d := d :: d2) s2 ⟨v, v2, rfl, r1.mono n2.han n2.fr, r2⟩ h2
end
section
variable {K : PySem.W.Frag} {io : Io} {F : Hp} {S : Sto} {H : Hp}
def FrzOk (K : PySem.W.Frag) (H : Hp) (io : Io) (f : Vl → Sto → Res P) : Prop := ∀ (F : Hp) (S S' : Sto) (d : Vl) (v : V) (x : P), Sta K io F S H → RepV K io F d v → f d S = .ok x S' → ∃ F', Nxt io F H io F' H ∧ Sta K io F' S' H ∧ Rep K F' x v
theorem FrzOk.seq {f : Vl → Sto → Res P} (hf : FrzOk K H io f) : ∀ {ds : List Vl} {vs : List V} {F : Hp} {S S' : Sto} {xs : List P}, Sta K io F S H → RepVs K io F ds vs → seqR f ds S = .ok xs S' → ∃ F', Nxt io F H io F' H ∧ Sta K io F' S' H ∧ RepL K F' xs vs
  | [], vs, F, S, S', xs, st, r, e => by
    cases e
    have r' : _ = _ := r
    subst r'
    exact ⟨F, Nxt.refl, st, .nil⟩
  | d :: ds, vs, F, S, S', xs, st, ⟨v, r, e1, h1, h2⟩, e => by
    subst e1
    have e : ((f d S).bind fun y S1 => (seqR f ds S1).bind fun ys S2 => Res.ok (y :: ys) S2) = .ok xs S' := e
    cases q : f d S with
    | bad => rw [q] at e; cases e
    | exc c x S1 => rw [q] at e; cases e
    | ok y S1 =>
      rw [q] at e
      have e : ((seqR f ds S1).bind fun ys S2 => Res.ok (y :: ys) S2) = .ok xs S' := e
      obtain ⟨F1, n1, s1, rp⟩ := hf _ _ _ _ _ _ st h1 q
      cases q2 : seqR f ds S1 with
      | bad => rw [q2] at e; cases e
      | exc c x S2 => rw [q2] at e; cases e
      | ok ys S2 =>
        rw [q2] at e
        cases e
        obtain ⟨F2, n2, s2, rps⟩ := FrzOk.seq hf s1 (h2.mono n1.han n1.fr) q2
        exact ⟨F2, n1.trans n2, s2, .cons (Rep.mono n2.fr rp) rps⟩
theorem frzN_ok : ∀ n, FrzOk K H io (frzN n)
  | 0 => fun F S S' d v x st r e => by
    cases d with
    | p y => cases e; exact ⟨F, Nxt.refl, st, r⟩
    | c k => cases e
  | n + 1 => fun F S S' d v x st r e => by
    cases d with
    | p y => cases e; exact ⟨F, Nxt.refl, st, r⟩
    | c k =>
      obtain ⟨a, ha, rfl⟩ := r
      unfold frzN at e
      dsimp only at e
      cases hk : S[k]? with
      | none => rw [hk] at e; cases e
      | some c =>
        rw [hk] at e
        cases c with
        | lst xs =>
          cases e
          obtain ⟨b, vs, hb, hF, hH, hr⟩ := st.cel k _ hk
          rw [ha] at hb
          cases hb
          have rp : Rep K (upd F a (.lst vs)) (.lst xs) (.ref a) := ⟨a, vs, rfl, upd_same, RepL.mono (upd_same_of hF) hr⟩
          obtain ⟨s2, n2⟩ := st.freeze ha hF hH rp
          exact ⟨_, n2, s2, rp⟩
        | dct ks xs =>
          cases e
          obtain ⟨b, vs, hb, hF, hH, hr, hr2⟩ := st.cel k _ hk
          rw [ha] at hb
          cases hb
          have rp : Rep K (upd F a (.dK vs)) (.dct ks xs) (.ref a) := ⟨a, vs, rfl, upd_same, RepL.mono (upd_same_of hF) hr, RepL.mono (upd_same_of hF) hr2⟩
          obtain ⟨s2, n2⟩ := st.freeze ha hF hH rp
          exact ⟨_, n2, s2, rp⟩
        | fz y =>
          cases e
          obtain ⟨b, hb, hr⟩ := st.cel k _ hk
          rw [ha] at hb
          cases hb
          exact ⟨F, Nxt.refl, st, hr⟩
        | tup ys =>
          cases e
          obtain ⟨b, vs, hb, hF, hr⟩ := st.cel k _ hk
          rw [ha] at hb
          cases hb
          exact ⟨F, Nxt.refl, st, a, vs, rfl, SqT.of hF, hr⟩
        | tpz ys =>
          cases e
          obtain ⟨b, vs, o, hb, hF, _, _, hr⟩ := st.cel k _ hk
          rw [ha] at hb
          cases hb
          exact ⟨F, Nxt.refl, st, a, vs, rfl, .inl (.inr ⟨o, hF⟩), hr⟩
        | dcT ks ys => cases e
        | dcN η ks ys => cases e
        | tbl p q => cases e
        | dvs _ => cases e
        | tblC _ _ _ => cases e
        | lsv xs =>
          dsimp only at e
          obtain ⟨b, vs, hb, hF, hH, hr, _⟩ := st.cel k _ hk
          rw [ha] at hb
          cases hb
          cases q : seqR (frzN n) xs S with
          | bad => rw [q] at e; cases e
          | exc c x S2 => rw [q] at e; cases e
          | ok ys S2 =>
            rw [q] at e
            have e : (match S2[k]? with
              | some (.lsv _) => Res.ok (P.lst ys) (S2.set k (.fz (.lst ys)))
              | _ => .bad) = .ok x S' := e
            obtain ⟨F3, n3, s3, rps⟩ := FrzOk.seq (frzN_ok n) st hr q
            split at e
            · rename_i xs' hk'
              cases e
              obtain ⟨b, vs', hb, hF', hH', _⟩ := s3.cel k _ hk'
              rw [ha] at hb
              cases hb
              rw [hH] at hH'
              cases hH'
              have rp : Rep K (upd F3 a (.lst vs)) (.lst ys) (.ref a) := ⟨a, vs, rfl, upd_same, RepL.mono (upd_same_of hF') rps⟩
              obtain ⟨s2, n2⟩ := s3.freeze ha hF' hH rp
              exact ⟨_, n3.trans n2, s2, rp⟩
            · cases e
        | ins cc ns xs =>
          dsimp only at e
          obtain ⟨b, dx, gs, hb, hF, hH, hn, hr, _⟩ := st.cel k _ hk
          rw [ha] at hb
          cases hb
          cases q : seqR (frzN n) xs S with
          | bad => rw [q] at e; cases e
          | exc c x S2 => rw [q] at e; cases e
          | ok ys S2 =>
            rw [q] at e
            have e : (match S2[k]? with
              | some (.ins c' ns' _) => if c' = cc ∧ ns' = ns then Res.ok (P.obj cc ns ys) (S2.set k (.fz (.obj cc ns ys))) else .bad
              | _ => .bad) = .ok x S' := e
            obtain ⟨F3, n3, s3, rps⟩ := FrzOk.seq (frzN_ok n) st hr q
            split at e
            · rename_i c' ns' xs' hk'
              split at e
              · rename_i hcn
                cases e
                obtain ⟨b, dx', gs', hb, hF', hH', _⟩ := s3.cel k _ hk'
                rw [ha] at hb
                cases hb
                have rp : Rep K (upd F3 a (.ins (He.ga K cc) dx gs)) (.obj cc ns ys) (.ref a) := ⟨a, dx, gs, rfl, upd_same, hn, RepL.mono (upd_same_of hF') rps⟩
                obtain ⟨s2, n2⟩ := s3.freeze ha hF' hH rp
                exact ⟨_, n3.trans n2, s2, rp⟩
              · cases e
            · cases e
        | res => cases e
theorem Sta.frz (st : Sta K io F S H) {d : Vl} {v : V} {C D : Type} {R' : Io → Hp → C → D → Prop} {g : P → Sto → Res C} {Q : D → Hp → Prop} {E : XK} (r1 : RepV K io F d v) (h : RG K R' ((Mir.frz d S).bind g) io F H Q E) :
    ∃ x S' F', Nxt io F H io F' H ∧ Sta K io F' S' H ∧ Rep K F' x v ∧ Mir.frz d S = .ok x S' ∧ RG K R' (g x S') io F' H Q E := by
  cases q : Mir.frz d S with
  | bad => rw [q] at h; exact h.elim
  | exc c x S1 => exact absurd q (frz_nox _ _ _ _ _)
  | ok x S1 =>
    rw [q] at h
    obtain ⟨F1, n1, s1, rp⟩ := frzN_ok 3 _ _ _ _ _ _ st r1 q
    exact ⟨x, S1, F1, n1, s1, rp, rfl, RG.step n1 h⟩
theorem Sta.frzs {C D : Type} {R' : Io → Hp → C → D → Prop} {Q : D → Hp → Prop} {E : XK} : ∀ {ds : List Vl} {vs : List V} {F : Hp} {S : Sto} {g : List P → Sto → Res C}, Sta K io F S H → RepVs K io F ds vs → RG K R' ((Mir.frzs ds S).bind g) io F H Q E →
    ∃ xs S' F', Nxt io F H io F' H ∧ Sta K io F' S' H ∧ RepL K F' xs vs ∧ RG K R' (g xs S') io F' H Q E
  | [], vs, F, S, g, st, r, h => by
    have r' : _ = _ := r
    subst r'
    exact ⟨[], S, F, Nxt.refl, st, .nil, h⟩
  | d :: ds, vs, F, S, g, st, ⟨v, r, e1, h1, h2⟩, h => by
    subst e1
    have h : RG K R' ((Mir.frz d S).bind fun y S1 => ((Mir.frzs ds S1).bind fun ys S2 => Res.ok (y :: ys) S2).bind g) io F H Q E := by
      have q : (Mir.frzs (d :: ds) S).bind g = (Mir.frz d S).bind fun y S1 => ((Mir.frzs ds S1).bind fun ys S2 => Res.ok (y :: ys) S2).bind g := by
        show ((Mir.frz d S).bind fun y S1 => (Mir.frzs ds S1).bind fun ys S2 => Res.ok (y :: ys) S2).bind g = _
        cases Mir.frz d S <;> rfl
      rw [← q]; exact h
    obtain ⟨x, S1, F1, n1, s1, rp, hl, h3⟩ := st.frz h1 h
    have h3 : RG K R' ((Mir.frzs ds S1).bind fun ys S2 => g (x :: ys) S2) io F1 H Q E := by
      have q : (Mir.frzs ds S1).bind (fun ys S2 => g (x :: ys) S2) = ((Mir.frzs ds S1).bind fun ys S2 => Res.ok (x :: ys) S2).bind g := by
        cases Mir.frzs ds S1 <;> rfl
      rw [q]; exact h3
    obtain ⟨xs, S2, F2, n2, s2, rps, h4⟩ := Sta.frzs s1 (h2.mono n1.han n1.fr) h3
    exact ⟨x :: xs, S2, F2, n1.trans n2, s2, .cons (Rep.mono n2.fr rp) rps, h4⟩
end
section
variable {X : Cx} {W : WX} {pos : Pos} {es : List Expr} {mas : MA}
theorem sz5 {n : Nat} (h : n ≤ 100000) : n ≤ sizeLine := Nat.le_trans h (by decide)
theorem sz5l {n : Nat} (h : n < 100000) : n < sizeLine := Nat.lt_of_lt_of_le h (by decide)
theorem oe_tup {k : Nat} (h : OA X W es mas) : OE X W (.Tuple es k pos) (eTup mas) := by
  obtain ⟨t, p, h⟩ := h
  refine ⟨_, pe_tup p, fun ρ S io F σ H Q st en hw => ?_⟩
  refine h ρ S io F σ H _ st en (RG.bind hw fun d S1 io1 F1 H1 v e1 n1 s1 r1 h1 => ?_)
  obtain ⟨xs, S2, F2, n2, s2, rp, h2⟩ := s1.frzs r1 h1
  have hlen := rp.length
  by_cases hz : xs.length ≤ 100000
  · rw [if_pos hz] at h2
    refine ⟨by rw [hlen]; exact sz5 hz, fun q hq => ?_⟩
    obtain ⟨s3, n3⟩ := s2.froze (o := .tup v) hq
    exact h2 io1 _ _ (.ref q) n3 s3 ⟨q, v, rfl, SqT.of upd_same, RepL.mono n3.fr rp⟩
  · rw [if_neg hz] at h2
    exact h2.elim
theorem oe_lst (h : OA X W es mas) : OE X W (.List es pos) (eLst mas) := by
  obtain ⟨t, p, h⟩ := h
  refine ⟨_, pe_lst p, fun ρ S io F σ H Q st en hw => ?_⟩
  refine h ρ S io F σ H _ st en (RG.bind hw fun d S1 io1 F1 H1 v e1 n1 s1 r1 h1 => ?_)
  obtain ⟨xs, S2, F2, n2, s2, rp, h2⟩ := s1.frzs r1 h1
  have hlen := rp.length
  by_cases hz : xs.length ≤ 100000
  · rw [if_pos hz] at h2
    refine ⟨by rw [hlen]; exact sz5 hz, fun q hq => ?_⟩
    obtain ⟨s3, n3⟩ := s2.froze (o := .lst v) hq
    exact h2 io1 _ _ (.ref q) n3 s3 ⟨q, v, rfl, upd_same, RepL.mono n3.fr rp⟩
  · rw [if_neg hz] at h2
    exact h2.elim
theorem oe_lstC (h : OA X W es mas) : OE X W (.List es pos) (eLstC mas) := by
  obtain ⟨t, p, h⟩ := h
  refine ⟨_, pe_lst p, fun ρ S io F σ H Q st en hw => ?_⟩
  refine h ρ S io F σ H _ st en (RG.bind hw fun d S1 io1 F1 H1 v e1 n1 s1 r1 h1 => ?_)
  obtain ⟨xs, S2, F2, n2, s2, rp, h2⟩ := s1.frzs r1 h1
  have hlen := rp.length
  by_cases hz : xs.length ≤ 100000
  · rw [if_pos hz] at h2
    refine ⟨by rw [hlen]; exact sz5 hz, fun q hq => ?_⟩
    have hi : (io1 ++ [some q])[S2.length]? = some (some q) := by rw [← s2.len]; simp
    obtain ⟨s3, n3⟩ := s2.push (o := .lst v) (c := .lst xs) hq ⟨q, v, hi, Same.free s2.sub hq, upd_same, rp⟩
    exact h2 _ _ _ (.ref q) n3 s3 ⟨q, hi, rfl⟩
  · rw [if_neg hz] at h2
    exact h2.elim
end
end Mir

namespace Mir
open PySem L2
mutual
def P.dat : P → Nat → Bool
  | .non, _ => true
  | .bl _, _ => true
  | .int _, _ => true
  | .str x, _ => x.all fun c => decide (c < 128)
  | .lst _, 0 => false
  | .lst xs, n + 1 => datL xs n
  | .tup _, 0 => false
  | .tup xs, n + 1 => datL xs n
  | _, _ => false
def datL : List P → Nat → Bool
  | [], _ => true
  | x :: xs, n => x.dat n && datL xs n
end
mutual
def P.toD : P → PyData
  | .non => .none
  | .bl b => .bool b
  | .int i => .int i
  | .str x => .str (strOf x)
  | .lst xs => .list (toDL xs)
  | .tup xs => .tuple (toDL xs)
  | .dct _ _ => .none
  | .dcl _ _ => .none
  | .obj _ _ _ => .none
  | .ty _ => .none
  | .glo _ => .none
  | .raw _ => .none
  | .rwp _ _ => .none
  | .scr _ => .none
def toDL : List P → List PyData
  | [] => []
  | x :: xs => x.toD :: toDL xs
end
mutual
def P.eqv : P → P → Bool
  | .non, .non => true
  | .bl a, .bl b => a == b
  | .bl a, .int j => (if a then 1 else 0) == j
  | .int i, .bl b => i == (if b then 1 else 0)
  | .int i, .int j => i == j
  | .str x, .str y => x == y
  | .lst xs, .lst ys => eqvL xs ys
  | .tup xs, .tup ys => eqvL xs ys
  | _, _ => false
def eqvL : List P → List P → Bool
  | [], [] => true
  | x :: xs, y :: ys => x.eqv y && eqvL xs ys
  | _, _ => false
end
section
variable {K : PySem.W.Frag} {F H : Hp}
mutual
theorem Rep.dp : ∀ {x : P} {v : V} {n : Nat}, x.dat n = true → Rep K H x v → Dp K H v x.toD
  | .non, v, n, _, h => by
    have h' : _ = _ := h
    subst h'
    exact .non
  | .bl b, v, n, _, h => by
    have h' : _ = _ := h
    subst h'
    exact .bl b
  | .int b, v, n, _, h => by
    have h' : _ = _ := h
    subst h'
    exact .int b
  | .str b, v, n, _, h => by
    have h' : _ = _ := h
    subst h'
    exact .str _
  | .lst xs, v, n + 1, hd, h => by
    obtain ⟨a, vs, rfl, h1, h2⟩ := h
    exact .lst (SqL.of h1) (RepL.dp hd h2)
  | .tup xs, v, n + 1, hd, h => by
    obtain ⟨a, vs, rfl, h1, h2⟩ := h
    exact .tup h1 (RepL.dp hd h2)
  | .lst xs, v, 0, hd, h => by cases hd
  | .tup xs, v, 0, hd, h => by cases hd
  | .dct _ _, v, n, hd, h => by cases hd
  | .dcl _ _, v, n, hd, h => by cases hd
  | .obj _ _ _, v, n, hd, h => by cases hd
  | .ty _, v, n, hd, h => by cases hd
  | .glo _, v, n, hd, h => by cases hd
  | .raw _, v, n, hd, h => by cases hd
  | .rwp _ _, v, n, hd, h => by cases hd
  | .scr _, v, n, hd, h => by cases hd
theorem RepL.dp : ∀ {xs : List P} {vs : List V} {n : Nat}, datL xs n = true → RepL K H xs vs → DpAll K H vs (toDL xs)
  | [], vs, n, _, h => by
    have h' : _ = _ := h
    subst h'
    exact .nil
  | x :: xs, vs, n, hd, h => by
    obtain ⟨v, r, e1, h1, h2⟩ := h
    subst e1
    have hd' : (x.dat n && datL xs n) = true := hd
    rw [Bool.and_eq_true] at hd'
    exact .cons (Rep.dp hd'.1 h1) (RepL.dp hd'.2 h2)
end
theorem strOk_of {x : List Nat} (h : (x.all fun c => decide (c < 128)) = true) : (P.str x).toD.canLay0 = true := by
  show PyData.canLay0 (.str (strOf x)) = true
  simp only [PyData.canLay0]
  unfold PyData.strOk strOf
  simp only [List.all_eq_true, decide_eq_true_eq] at h
  simp only [List.all_toArray, List.all_eq_true, decide_eq_true_eq]
  exact fun c hc => Nat.lt_trans (h c hc) (by decide)
mutual
theorem P.lay : ∀ {x : P} {n : Nat}, x.dat n = true → x.toD.canLay0 = true
  | .non, n, _ => rfl
  | .bl b, n, _ => rfl
  | .int b, n, _ => rfl
  | .str b, n, h => strOk_of h
  | .lst xs, n + 1, hd => by
    show PyData.canLay0 (.list (toDL xs)) = true
    simp only [PyData.canLay0]
    exact layL hd
  | .tup xs, n + 1, hd => by
    show PyData.canLay0 (.tuple (toDL xs)) = true
    simp only [PyData.canLay0]
    exact layL hd
  | .lst xs, 0, hd => by cases hd
  | .tup xs, 0, hd => by cases hd
  | .dct _ _, n, hd => by cases hd
  | .dcl _ _, n, hd => by cases hd
  | .obj _ _ _, n, hd => by cases hd
  | .ty _, n, hd => by cases hd
  | .glo _, n, hd => by cases hd
  | .raw _, n, hd => by cases hd
  | .rwp _ _, n, hd => by cases hd
  | .scr _, n, hd => by cases hd
theorem layL : ∀ {xs : List P} {n : Nat}, datL xs n = true → PyData.canLayAll0 (toDL xs) = true
  | [], n, _ => rfl
  | x :: xs, n, hd => by
    have hd' : (x.dat n && datL xs n) = true := hd
    rw [Bool.and_eq_true] at hd'
    show PyData.canLayAll0 (x.toD :: toDL xs) = true
    simp only [PyData.canLayAll0, Bool.and_eq_true]
    exact ⟨P.lay hd'.1, layL hd'.2⟩
end
mutual
theorem P.dep : ∀ {x : P} {n : Nat}, x.dat n = true → x.toD.depth ≤ n
  | .non, n, _ => Nat.zero_le _
  | .bl b, n, _ => Nat.zero_le _
  | .int b, n, _ => Nat.zero_le _
  | .str b, n, _ => Nat.zero_le _
  | .lst xs, n + 1, hd => by
    show PyData.depth (.list (toDL xs)) ≤ n + 1
    have := depL (xs := xs) (n := n) hd
    simp only [PyData.depth]
    omega
  | .tup xs, n + 1, hd => by
    show PyData.depth (.tuple (toDL xs)) ≤ n + 1
    have := depL (xs := xs) (n := n) hd
    simp only [PyData.depth]
    omega
  | .lst xs, 0, hd => by cases hd
  | .tup xs, 0, hd => by cases hd
  | .dct _ _, n, hd => by cases hd
  | .dcl _ _, n, hd => by cases hd
  | .obj _ _ _, n, hd => by cases hd
  | .ty _, n, hd => by cases hd
  | .glo _, n, hd => by cases hd
  | .raw _, n, hd => by cases hd
  | .rwp _ _, n, hd => by cases hd
  | .scr _, n, hd => by cases hd
theorem depL : ∀ {xs : List P} {n : Nat}, datL xs n = true → PyData.depthAll (toDL xs) ≤ n
  | [], n, _ => Nat.zero_le _
  | x :: xs, n, hd => by
    have hd' : (x.dat n && datL xs n) = true := hd
    rw [Bool.and_eq_true] at hd'
    have h1 := P.dep hd'.1
    have h2 := depL hd'.2
    show PyData.depthAll (x.toD :: toDL xs) ≤ n
    simp only [PyData.depthAll]
    omega
end
theorem P.shp {x : P} {n : Nat} (hn : n ≤ 64) (h : x.dat n = true) : SeqAt.shaped x.toD = true := by
  unfold SeqAt.shaped
  rw [P.lay h, decide_eq_true (Nat.le_trans (P.dep h) hn)]
  rfl
theorem strOf_beq (x y : List Nat) : (strOf x == strOf y) = (x == y) := by
  by_cases h : x = y
  · subst h; simp
  · have h1 : strOf x ≠ strOf y := fun q => h (by
      have q' := congrArg (fun z : Str => z.cps.toList) q
      simpa [strOf] using q')
    rw [beq_eq_false_iff_ne.mpr h1, beq_eq_false_iff_ne.mpr h]
mutual
theorem P.eqD : ∀ {x y : P} {n m : Nat}, x.dat n = true → y.dat m = true → PyData.eqv x.toD y.toD = x.eqv y
  | .non, y, n, m, h1, h2 => by cases y <;> first | rfl | (cases h2)
  | .bl a, y, n, m, h1, h2 => by cases y <;> first | rfl | (cases h2)
  | .int a, y, n, m, h1, h2 => by cases y <;> first | rfl | (cases h2)
  | .str a, y, n, m, h1, h2 => by
    cases y with
    | str b => exact strOf_beq a b
    | non => rfl
    | bl _ => rfl
    | int _ => rfl
    | lst _ => rfl
    | tup _ => rfl
    | _ => cases h2
  | .lst xs, y, n + 1, m, h1, h2 => by
    cases y with
    | lst ys =>
      cases m with
      | zero => cases h2
      | succ m => exact eqDL h1 h2
    | non => rfl
    | bl _ => rfl
    | int _ => rfl
    | str _ => rfl
    | tup _ => rfl
    | _ => cases h2
  | .tup xs, y, n + 1, m, h1, h2 => by
    cases y with
    | tup ys =>
      cases m with
      | zero => cases h2
      | succ m => exact eqDL h1 h2
    | non => rfl
    | bl _ => rfl
    | int _ => rfl
    | str _ => rfl
    | lst _ => rfl
    | _ => cases h2
  | .lst xs, y, 0, m, h1, h2 => by cases h1
  | .tup xs, y, 0, m, h1, h2 => by cases h1
  | .dct _ _, y, n, m, h1, h2 => by cases h1
  | .dcl _ _, y, n, m, h1, h2 => by cases h1
  | .obj _ _ _, y, n, m, h1, h2 => by cases h1
  | .ty _, y, n, m, h1, h2 => by cases h1
  | .glo _, y, n, m, h1, h2 => by cases h1
  | .raw _, y, n, m, h1, h2 => by cases h1
  | .rwp _ _, y, n, m, h1, h2 => by cases h1
  | .scr _, y, n, m, h1, h2 => by cases h1
theorem eqDL : ∀ {xs ys : List P} {n m : Nat}, datL xs n = true → datL ys m = true → PyData.eqvAll (toDL xs) (toDL ys) = eqvL xs ys
  | [], [], n, m, _, _ => rfl
  | [], y :: ys, n, m, _, _ => rfl
  | x :: xs, [], n, m, _, _ => rfl
  | x :: xs, y :: ys, n, m, h1, h2 => by
    have h1' : (x.dat n && datL xs n) = true := h1
    have h2' : (y.dat m && datL ys m) = true := h2
    rw [Bool.and_eq_true] at h1' h2'
    show (PyData.eqv x.toD y.toD && PyData.eqvAll (toDL xs) (toDL ys)) = (x.eqv y && eqvL xs ys)
    rw [P.eqD h1'.1 h2'.1, eqDL h1'.2 h2'.2]
end
end
def pEq (x y : P) : Option P := if x.dat 60 && y.dat 60 then some (.bl (x.eqv y)) else none
def pNe (x y : P) : Option P := if x.dat 60 && y.dat 60 then some (.bl (!x.eqv y)) else none
section
variable {X : Cx} {W : WX} {a b c : Expr} {ma mb mc : ME} {pos : Pos}
theorem ok_eqD {K : PySem.W.Frag} : BinOk K (rEqD K) pEq := by
  intro io F S H x y v w z Q st rx ry e k
  unfold pEq at e
  split at e
  · rename_i hd
    rw [Bool.and_eq_true] at hd
    cases e
    refine ⟨x.toD, y.toD, Rep.dp hd.1 (rx.now st.sub), Rep.dp hd.2 (ry.now st.sub), P.shp (by decide) hd.1, P.shp (by decide) hd.2, ?_⟩
    rw [P.eqD hd.1 hd.2]
    exact k F H _ Nxt.refl st rfl
  · cases e
theorem ok_neD {K : PySem.W.Frag} : BinOk K (rNeD K) pNe := by
  intro io F S H x y v w z Q st rx ry e k
  unfold pNe at e
  split at e
  · rename_i hd
    rw [Bool.and_eq_true] at hd
    cases e
    refine ⟨x.toD, y.toD, Rep.dp hd.1 (rx.now st.sub), Rep.dp hd.2 (ry.now st.sub), P.shp (by decide) hd.1, P.shp (by decide) hd.2, ?_⟩
    rw [P.eqD hd.1 hd.2]
    exact k F H _ Nxt.refl st rfl
  · cases e
theorem oe_eq {k : Nat} (hr : Room k X.A) (ha : OE X W a ma) (hb : OE X W b mb) : OE X W (.Compare a [.Eq] [b] pos) (eBin pEq ma mb) := oe_cmp (op_eqD hr.units) ok_eqD ha hb (nomark _)
theorem ot_eq {k : Nat} (hr : Room k X.A) (ha : OE X W a ma) (hb : OE X W b mb) : OT X W (.Compare a [.Eq] [b] pos) (tVal (eBin pEq ma mb)) := ot_cmp (op_eqD hr.units) ok_eqD ha hb (nomark _)
theorem ot_ne {k : Nat} (hr : Room k X.A) (ha : OE X W a ma) (hb : OE X W b mb) : OT X W (.Compare a [.NotEq] [b] pos) (tVal (eBin pNe ma mb)) := ot_cmp (op_neD hr.units) ok_neD ha hb (nomark _)
end
def int2 (f : Int → Int → Option P) (x y : P) : Option P := match x with
  | .int i => (match y with
    | .int j => f i j
    | _ => none)
  | _ => none
def pI (g : Int → Int → Int) : P → P → Option P := int2 fun i j => some (.int (g i j))
def pIC (C : Int → Int → Bool) (g : Int → Int → Int) : P → P → Option P := int2 fun i j => if C i j then some (.int (g i j)) else none
def pIB (g : Int → Int → Bool) : P → P → Option P := int2 fun i j => some (.bl (g i j))
section
variable {K : PySem.W.Frag} {F : Hp} {H : Hp}
theorem two_int {x y : P} {v w : V} {z : P} {f : Int → Int → Option P} (rx : RepR K F H x v) (ry : RepR K F H y w) (e : int2 f x y = some z) : ∃ i j, v = .int i ∧ w = .int j ∧ f i j = some z := by
  cases x with
  | int i =>
    cases y with
    | int j => exact ⟨i, j, rx, ry, e⟩
    | _ => cases e
  | _ => cases e
theorem ok_I0 {g : Int → Int → Int} : BinOk K (rI0 fun i j => .int (g i j)) (pI g) := by
  intro io F S H x y v w z Q st rx ry e k
  obtain ⟨i, j, rfl, rfl, e⟩ := two_int rx ry e
  cases e
  exact ⟨i, j, rfl, rfl, k F H _ Nxt.refl st rfl⟩
theorem ok_B0 {g : Int → Int → Bool} : BinOk K (rI0 fun i j => .bl (g i j)) (pIB g) := by
  intro io F S H x y v w z Q st rx ry e k
  obtain ⟨i, j, rfl, rfl, e⟩ := two_int rx ry e
  cases e
  exact ⟨i, j, rfl, rfl, k F H _ Nxt.refl st rfl⟩
theorem ok_IC {C : Int → Int → Prop} {B : Int → Int → Bool} {g : Int → Int → Int} (hB : ∀ i j, B i j = true → C i j) : BinOk K (rI C fun i j => .int (g i j)) (pIC B g) := by
  intro io F S H x y v w z Q st rx ry e k
  obtain ⟨i, j, rfl, rfl, e⟩ := two_int rx ry e
  split at e
  · rename_i hb
    cases e
    exact ⟨i, j, rfl, rfl, hB i j hb, k F H _ Nxt.refl st rfl⟩
  · cases e
end
def bMul (i j : Int) : Bool := (decide (-(2 ^ 64) < i) && decide (i < 2 ^ 64)) || (decide (-(2 ^ 64) < j) && decide (j < 2 ^ 64))
def bDiv (_ j : Int) : Bool := decide (0 < j) && decide (j < 1073741824)
def bPow (i j : Int) : Bool := decide (0 ≤ j) && (decide (j ≤ 1000000) && decide (i.natAbs < 2 ^ 64))
def bMod (_ j : Int) : Bool := decide (0 < j)
def bShr (_ j : Int) : Bool := decide (0 ≤ j)
theorem bMul_ok (i j : Int) (h : bMul i j = true) : CMul i j := by
  unfold bMul at h
  simp only [Bool.or_eq_true, Bool.and_eq_true, decide_eq_true_eq] at h
  exact h
theorem bDiv_ok (i j : Int) (h : bDiv i j = true) : CDiv i j := by
  unfold bDiv at h
  simp only [Bool.and_eq_true, decide_eq_true_eq] at h
  exact h
theorem bPow_ok (i j : Int) (h : bPow i j = true) : CPow i j := by
  unfold bPow at h
  simp only [Bool.and_eq_true, decide_eq_true_eq] at h
  exact h
def pAdd : P → P → Option P
  | .int i, .int j => some (.int (i + j))
  | .str x, .str y => if x.length + y.length ≤ 100000 then some (.str (x ++ y)) else none
  | .lst x, .lst y => if x.length + y.length ≤ 100000 then some (.lst (x ++ y)) else none
  | .tup x, .tup y => if x.length + y.length ≤ 100000 then some (.tup (x ++ y)) else none
  | _, _ => none
def rAddAny (K : PySem.W.Frag) : R2 := fun x y H Q => ((rI0 fun i j => .int (i + j)) x y H Q ∨ (fun x y H Q => ∃ i j, x = V.str i ∧ y = V.str j ∧ i.length + j.length ≤ sizeLine ∧ Q (V.str (i ++ j)) H) x y H Q) ∨ (rCat x y H Q ∨ rCatA K x y H Q)
theorem op_addAny {X : Cx} : OpR X (binaryOp .Add) (rAddAny X.K) := OpR.or (OpR.or op_add op_add_str) (OpR.or op_cat op_catA)
theorem strOf_length (x : List Nat) : (strOf x).length = x.length := by
  show x.toArray.size = x.length
  simp
theorem strOf_append (x y : List Nat) : strOf x ++ strOf y = strOf (x ++ y) := by
  show (⟨x.toArray ++ y.toArray⟩ : Str) = ⟨(x ++ y).toArray⟩
  simp
section
variable {K : PySem.W.Frag}
theorem ok_add : BinOk K (rAddAny K) pAdd := by
  intro io F S H x y v w z Q st rx ry e k
  cases x with
  | int i =>
    cases y with
    | int j =>
      cases e
      have rx : _ = _ := rx
      have ry : _ = _ := ry
      subst rx; subst ry
      exact .inl (.inl ⟨i, j, rfl, rfl, k F H _ Nxt.refl st rfl⟩)
    | _ => cases e
  | str i =>
    cases y with
    | str j =>
      have e : (if i.length + j.length ≤ 100000 then some (P.str (i ++ j)) else none) = some z := e
      split at e
      · rename_i hz
        cases e
        have rx : _ = _ := rx
        have ry : _ = _ := ry
        subst rx; subst ry
        refine .inl (.inr ⟨_, _, rfl, rfl, by rw [strOf_length, strOf_length]; exact sz5 hz, ?_⟩)
        rw [strOf_append]
        exact k F H _ Nxt.refl st rfl
      · cases e
    | _ => cases e
  | lst i =>
    cases y with
    | lst j =>
      have e : (if i.length + j.length ≤ 100000 then some (P.lst (i ++ j)) else none) = some z := e
      split at e
      · rename_i hz
        cases e
        obtain ⟨a, vs, rfl, ha, ra⟩ := rx
        obtain ⟨b, ws, rfl, hb, rb⟩ := ry
        refine .inr (.inl ⟨a, b, vs, ws, rfl, rfl, ha, hb, by rw [ra.length, rb.length]; exact sz5 hz, fun p hp => ?_⟩)
        obtain ⟨s3, n3⟩ := st.froze (o := .lst (vs ++ ws)) hp
        exact k _ _ _ n3 s3 ⟨p, _, rfl, upd_same, RepL.mono n3.fr (ra.append rb)⟩
      · cases e
    | _ => cases e
  | tup i =>
    cases y with
    | tup j =>
      have e : (if i.length + j.length ≤ 100000 then some (P.tup (i ++ j)) else none) = some z := e
      split at e
      · rename_i hz
        cases e
        obtain ⟨a, vs, rfl, ha, ra⟩ := rx
        obtain ⟨b, ws, rfl, hb, rb⟩ := ry
        have l1 := ra.length
        have l2 := rb.length
        refine .inr (.inr ⟨a, b, vs, ws, rfl, rfl, sqt_mono st.sub ha, sqt_mono st.sub hb, by rw [l1, l2]; exact sz5 hz, fun h0 => ?_, fun h0 h1 => ?_, fun h0 h1 p hp => ?_⟩)
        · subst h0
          have : i = [] := List.length_eq_zero_iff.mp l1.symm
          subst this
          exact k F H _ Nxt.refl st ⟨b, ws, rfl, hb, rb⟩
        · subst h1
          have : j = [] := List.length_eq_zero_iff.mp l2.symm
          subst this
          rw [List.append_nil] at k
          exact k F H _ Nxt.refl st ⟨a, vs, rfl, ha, ra⟩
        · obtain ⟨s3, n3⟩ := st.froze (o := .tup (vs ++ ws)) hp
          exact k _ _ _ n3 s3 ⟨p, _, rfl, SqT.of upd_same, RepL.mono n3.fr (ra.append rb)⟩
      · cases e
    | _ => cases e
  | _ => cases e
end
section
variable {X : Cx} {W : WX} {a b c : Expr} {ma mb mc : ME} {pos : Pos}
theorem oe_add (ha : OE X W a ma) (hb : OE X W b mb) : OE X W (.BinOp a .Add b pos) (eBin pAdd ma mb) := oe_bin op_addAny ok_add ha hb
theorem oe_sub (ha : OE X W a ma) (hb : OE X W b mb) : OE X W (.BinOp a .Sub b pos) (eBin (pI fun i j => i - j) ma mb) := oe_bin op_sub ok_I0 ha hb
theorem oe_fdiv (ha : OE X W a ma) (hb : OE X W b mb) : OE X W (.BinOp a .FloorDiv b pos) (eBin (pIC bDiv fun i j => i / j) ma mb) := oe_bin op_fdiv (ok_IC bDiv_ok) ha hb
theorem oe_mod (ha : OE X W a ma) (hb : OE X W b mb) : OE X W (.BinOp a .Mod b pos) (eBin (pIC bMod fun i j => i % j) ma mb) := oe_bin op_mod (ok_IC fun _ _ h => of_decide_eq_true h) ha hb
theorem oe_pow (ha : OE X W a ma) (hb : OE X W b mb) : OE X W (.BinOp a .Pow b pos) (eBin (pIC bPow fun i j => i ^ j.toNat) ma mb) := oe_bin op_pow (ok_IC bPow_ok) ha hb
theorem oe_le (ha : OE X W a ma) (hb : OE X W b mb) : OE X W (.Compare a [.LtE] [b] pos) (eBin (pIB fun i j => decide (i ≤ j)) ma mb) := oe_cmp op_le ok_B0 ha hb (nomark _)
theorem ot_lt (ha : OE X W a ma) (hb : OE X W b mb) : OT X W (.Compare a [.Lt] [b] pos) (tVal (eBin (pIB fun i j => decide (i < j)) ma mb)) := ot_cmp op_lt ok_B0 ha hb (nomark _)
theorem ot_gt (ha : OE X W a ma) (hb : OE X W b mb) : OT X W (.Compare a [.Gt] [b] pos) (tVal (eBin (pIB fun i j => decide (j < i)) ma mb)) := ot_cmp op_gt ok_B0 ha hb (nomark _)
theorem ot_ge (ha : OE X W a ma) (hb : OE X W b mb) : OT X W (.Compare a [.GtE] [b] pos) (tVal (eBin (pIB fun i j => decide (j ≤ i)) ma mb)) := ot_cmp op_ge ok_B0 ha hb (nomark _)
def pNeg : P → Option P
  | .int i => some (.int (-i))
  | _ => none
def pInv : P → Option P
  | .int i => some (.int (Builtin.bitNot i))
  | _ => none
theorem ok_neg {K : PySem.W.Frag} : UnOk K (rU fun i => .int (-i)) pNeg := by
  intro io F S H x v z Q st rx e k
  cases x with
  | int i =>
    cases e
    exact ⟨i, rx, k F H _ Nxt.refl st rfl⟩
  | _ => cases e
theorem oe_neg (ha : OE X W a ma) : OE X W (.UnaryOp .USub a pos) (eUn pNeg ma) := oe_un un_neg ok_neg ha
def isN (x : Vl) : Bool := match x with
  | .p .non => true
  | _ => false
def eIsN (a : ME) : ME := fun ρ S => (a ρ S).bind fun x S1 => .ok (.p (.bl (isN x))) S1
def eNotN (a : ME) : ME := fun ρ S => (a ρ S).bind fun x S1 => .ok (.p (.bl (!isN x))) S1
theorem isN_ok {K : PySem.W.Frag} {io : Io} {F : Hp} {d : Vl} {v : V} (r : RepV K io F d v) : decide (v = .non) = isN d := by
  cases d with
  | c k =>
    obtain ⟨a, _, rfl⟩ := r
    exact decide_eq_false fun q => nomatch q
  | p x =>
    cases x with
    | non =>
      have r : _ = _ := r
      subst r
      rfl
    | bl _ =>
      have r : _ = _ := r
      subst r
      exact decide_eq_false fun q => nomatch q
    | int _ =>
      have r : _ = _ := r
      subst r
      exact decide_eq_false fun q => nomatch q
    | str _ =>
      have r : _ = _ := r
      subst r
      exact decide_eq_false fun q => nomatch q
    | tup _ =>
      obtain ⟨a, _, rfl, _⟩ := r
      exact decide_eq_false fun q => nomatch q
    | lst _ =>
      obtain ⟨a, _, rfl, _⟩ := r
      exact decide_eq_false fun q => nomatch q
    | dcl _ _ =>
      obtain ⟨a, _, rfl, _⟩ := r
      exact decide_eq_false fun q => nomatch q
    | dct _ _ =>
      obtain ⟨a, _, rfl, _⟩ := r
      exact decide_eq_false fun q => nomatch q
    | obj _ _ _ =>
      obtain ⟨a, _, _, rfl, _⟩ := r
      exact decide_eq_false fun q => nomatch q
    | scr _ =>
      obtain ⟨a, _, rfl, _⟩ := r
      exact decide_eq_false fun q => nomatch q
    | ty _ =>
      have r : _ = _ := r
      subst r
      exact decide_eq_false fun q => nomatch q
    | glo _ =>
      have r : _ = _ := r
      subst r
      exact decide_eq_false fun q => nomatch q
    | rwp _ _ =>
      obtain ⟨a, _, _, rfl, _⟩ := r
      exact decide_eq_false fun q => nomatch q
    | raw _ =>
      have r : _ = _ := r
      subst r
      exact decide_eq_false fun q => nomatch q
theorem oe_notN {j : Nat} {p2 : Pos} (ha : OE X W a ma) : OE X W (.Compare a [.IsNot] [.Constant .none j p2] pos) (eNotN ma) := by
  obtain ⟨t, p, ha⟩ := ha
  refine ⟨_, pe_cmp (pc_notN p), fun ρ S io F σ H Q st en h => ?_⟩
  refine ha ρ S io F σ H _ st en (RG.bind h fun d S1 io1 F1 H1 v e1 n1 s1 r1 h1 => ?_)
  show Q (.bl (!decide (v = .non))) H1
  rw [isN_ok r1]
  exact RG.val (R := RepA X.K) (d := .p (.bl (!isN d))) s1 rfl h1
theorem ot_isN {j : Nat} {p2 : Pos} (ha : OE X W a ma) : OT X W (.Compare a [.Is] [.Constant .none j p2] pos) (tVal (eIsN ma)) := by
  obtain ⟨t, p, ha⟩ := ha
  refine ⟨_, pt_cmp (pc_isN p), fun ρ S io F σ H Q st en h => ?_⟩
  have h : RG X.K RepB ((ma ρ S).bind fun x S1 => Res.ok (isN x) S1) io F H Q (fun c d H' => W c d σ H') := by
    unfold tVal eIsN at h
    cases q : ma ρ S with
    | ok d S1 => rw [q] at h; exact h
    | exc c x S1 => rw [q] at h; exact h
    | bad => rw [q] at h; exact h
  refine ha ρ S io F σ H _ st en (RG.bind h fun d S1 io1 F1 H1 v e1 n1 s1 r1 h1 => ?_)
  refine ⟨isN d, by rw [isN_ok r1], RG.val (R := RepB) (d := isN d) (v := isN d) s1 rfl h1⟩
end
end Mir

namespace Mir
open PySem L2
def RepRs (K : PySem.W.Frag) (F H : Hp) : List P → List V → Prop
  | [], vs => vs = []
  | x :: xs, vs => ∃ v r, vs = v :: r ∧ RepR K F H x v ∧ RepRs K F H xs r
def rds (S : Sto) : List Vl → Option (List P)
  | [] => some []
  | d :: ds => (rd S d).bind fun x => (rds S ds).bind fun xs => some (x :: xs)
def call1 (f : List P → Option P) (ds : List Vl) (S : Sto) : Res Vl := match rds S ds with
  | some xs => (match f xs with
    | some z => .ok (.p z) S
    | none => .bad)
  | none => .bad
def eCall (f : List P → Option P) (a : MA) : ME := fun ρ S => (a ρ S).bind fun ds S1 => call1 f ds S1
def CallOk (K : PySem.W.Frag) (r : List V → Hp → VK → Prop) (f : List P → Option P) : Prop := ∀ (io : Io) (F : Hp) (S : Sto) (H : Hp) (xs : List P) (vs : List V) (z : P) (Q : VK), Sta K io F S H → RepRs K F H xs vs → f xs = some z →
  (∀ F' H' u, Nxt io F H io F' H' → Sta K io F' S H' → Rep K F' z u → Q u H') → r vs H Q
section
variable {K : PySem.W.Frag} {io : Io} {F : Hp} {S : Sto} {H : Hp}
theorem Sta.rds (st : Sta K io F S H) : ∀ {ds : List Vl} {vs : List V} {xs : List P}, RepVs K io F ds vs → Mir.rds S ds = some xs → RepRs K F H xs vs
  | [], vs, xs, h, e => by
    have e' : [] = xs := Option.some.inj e
    subst e'
    exact h
  | d :: ds, vs, xs, ⟨v, r, e1, h1, h2⟩, e => by
    subst e1
    have e : ((Mir.rd S d).bind fun x => (Mir.rds S ds).bind fun xs => some (x :: xs)) = some xs := e
    cases q : Mir.rd S d with
    | none => rw [q] at e; cases e
    | some x =>
      rw [q] at e
      cases q2 : Mir.rds S ds with
      | none => rw [q2] at e; cases e
      | some ys =>
        rw [q2] at e
        have e' : x :: ys = xs := Option.some.inj e
        subst e'
        exact ⟨v, r, rfl, st.rd h1 q, Sta.rds st h2 q2⟩
theorem Sta.call1 {r : List V → Hp → VK → Prop} {f : List P → Option P} {ds : List Vl} {vs : List V} {Q : VK} {E : XK} (hf : CallOk K r f) (st : Sta K io F S H) (r1 : RepVs K io F ds vs)
    (h : RG K (RepA K) (Mir.call1 f ds S) io F H Q E) : r vs H Q := by
  unfold Mir.call1 at h
  cases e1 : Mir.rds S ds with
  | none => rw [e1] at h; exact h.elim
  | some x =>
    rw [e1] at h
    dsimp only at h
    cases e3 : f x with
    | none => rw [e3] at h; exact h.elim
    | some z =>
      rw [e3] at h
      exact hf io F S H x vs z Q st (st.rds r1 e1) e3 fun F' H' u n s rp => h io F' H' u n s rp
theorem RepRs.one {x : P} {vs : List V} (h : RepRs K F H [x] vs) : ∃ v, vs = [v] ∧ RepR K F H x v := by
  obtain ⟨v, r, e, h1, h2⟩ := h
  have h2 : r = [] := h2
  subst h2
  exact ⟨v, e, h1⟩
theorem RepRs.two {x y : P} {vs : List V} (h : RepRs K F H [x, y] vs) : ∃ v w, vs = [v, w] ∧ RepR K F H x v ∧ RepR K F H y w := by
  obtain ⟨v, r, e, h1, h2⟩ := h
  obtain ⟨w, rfl, h3⟩ := h2.one
  exact ⟨v, w, e, h1, h3⟩
end
section
variable {X : Cx} {W : WX} {a b c e o : Expr} {ma mb mc mo : ME} {pos : Pos} {es : List Expr} {mas : MA}
theorem oe_callB {x : Str} {id : String} {p : Pos} {r : List V → Hp → VK → Prop} {f : List P → Option P} (hc : CallR X (.builtin id) r) (hf : CallOk X.K r f) (hm : X.mg x = none) (hv : bootBuiltins x = some (.builtin id)) (ha : OA X W (e :: es) mas)
    (hg : Gl X x := by rfl) (hn : x ≠ "__name__" := by decide) (hdb : (x == ("__debug__" : Str)) = false := by decide) (hs : starEach (e :: es) X.env = (false, eval e X.env) :: starEach es X.env := by rfl) (hplain : (backTo pos (starEach es X.env)).any (·.1) = false := by rfl) :
    OE X W (.Call (.Name x p) (e :: es) [] pos) (eCall f mas) := by
  obtain ⟨t, q, ha⟩ := ha
  refine ⟨_, pe_callB hc hg hm hv q hn hdb hs hplain, fun ρ S io F σ H Q st en h => ?_⟩
  exact ha ρ S io F σ H _ st en (RG.bind h fun d S1 io1 F1 H1 v e1 n1 s1 r1 h1 => s1.call1 hf r1 h1)
theorem oe_callTy {x : Str} {T : String} {p : Pos} {r : List V → Hp → VK → Prop} {f : List P → Option P} (hc : CallR X (.type T) r) (hf : CallOk X.K r f) (hm : X.mg x = none) (hv : bootBuiltins x = some (.type T)) (ha : OA X W (e :: es) mas)
    (hg : Gl X x := by rfl) (hn : x ≠ "__name__" := by decide) (hdb : (x == ("__debug__" : Str)) = false := by decide) (hs : starEach (e :: es) X.env = (false, eval e X.env) :: starEach es X.env := by rfl) (hplain : (backTo pos (starEach es X.env)).any (·.1) = false := by rfl) :
    OE X W (.Call (.Name x p) (e :: es) [] pos) (eCall f mas) := by
  obtain ⟨t, q, ha⟩ := ha
  refine ⟨_, pe_callTy hc hg hm hv q hn hdb hs hplain, fun ρ S io F σ H Q st en h => ?_⟩
  exact ha ρ S io F σ H _ st en (RG.bind h fun d S1 io1 F1 H1 v e1 n1 s1 r1 h1 => s1.call1 hf r1 h1)
def tyP (T : String) : P → Bool
  | .str _ => T == "str"
  | .int _ => T == "int"
  | .lst _ => T == "list"
  | .dct _ _ => T == "dict"
  | _ => false
def eMthT (T : String) (f : P → List P → Option P) (o : ME) (a : MA) : ME := fun ρ S => (o ρ S).bind fun d S1 => match rd S1 d with
  | some x => if tyP T x then (a ρ S1).bind fun ds S2 => call1 (fun xs => match xs with
    | x :: r => f x r
    | [] => none) (d :: ds) S2 else .bad
  | none => .bad
theorem IxR.or {r r' : R2} (h : IxR X r) (h' : IxR X r') : IxR X (fun x y H Q => r x y H Q ∨ r' x y H Q) := by
  intro value slice pins s σ H x y v u Q I rx ry q hs
  rcases q with q | q
  · exact h value slice pins s σ H x y v u Q I rx ry q hs
  · exact h' value slice pins s σ H x y v u Q I rx ry q hs
def pIx : P → P → Option P
  | .lst xs, .int i => atI xs i
  | .scr xs, .int i => atI xs i
  | .tup xs, .int i => atI xs i
  | .str x, .int i => if x.length ≤ 100000 then (atI x i).map fun c => .str [c] else none
  | _, _ => none
theorem atI_rep {K : PySem.W.Frag} {F : Hp} {xs : List P} {vs : List V} {i : Int} {z : P} (r : RepL K F xs vs) (e : atI xs i = some z) : ∃ v, atI vs i = some v ∧ Rep K F z v := by
  obtain ⟨j, h1, h2, h3, h4, h5⟩ := atI_get e
  obtain ⟨v, hv, hr⟩ := r.get h2
  refine ⟨v, ?_, hr⟩
  unfold atI at e ⊢
  rw [r.length]
  cases q : ixN xs.length i with
  | none => rw [q] at e; cases e
  | some k =>
    rw [q] at e
    have e : xs[k]? = some z := e
    obtain ⟨w, hw, hrw⟩ := r.get e
    have q2 := (ixN_seq q).1
    rw [h1] at q2
    cases q2
    show vs[j]? = some v
    exact hv
theorem ok_ix {K : PySem.W.Frag} : BinOk K (fun x y H Q => (rIxL K x y H Q ∨ rIxT K x y H Q) ∨ rIxS x y H Q) pIx := by
  intro io F S H x y v w z Q st rx ry e k
  cases y with
  | int i =>
    have ry : _ = _ := ry
    subst ry
    cases x with
    | lst xs =>
      obtain ⟨a, vs, rfl, ha, ra⟩ := rx
      obtain ⟨u, hu, hr⟩ := atI_rep ra e
      exact .inl (.inl ⟨a, vs, i, u, rfl, rfl, SqL.of ha, hu, k F H u Nxt.refl st hr⟩)
    | scr xs =>
      obtain ⟨a, vs, rfl, ha, ra⟩ := rx
      obtain ⟨u, hu, hr⟩ := atI_rep ra e
      exact .inl (.inl ⟨a, vs, i, u, rfl, rfl, sql_mono st.sub ha, hu, k F H u Nxt.refl st hr⟩)
    | tup xs =>
      obtain ⟨a, vs, rfl, ha, ra⟩ := rx
      obtain ⟨u, hu, hr⟩ := atI_rep ra e
      exact .inl (.inr ⟨a, vs, i, u, rfl, rfl, sqt_mono st.sub ha, hu, k F H u Nxt.refl st hr⟩)
    | str xs =>
      have rx : _ = _ := rx
      subst rx
      have e : (if xs.length ≤ 100000 then (atI xs i).map fun c => P.str [c] else none) = some z := e
      split at e
      · rename_i hz
        cases q : atI xs i with
        | none => rw [q] at e; cases e
        | some c =>
          rw [q] at e
          have e' : P.str [c] = z := Option.some.inj e
          subst e'
          exact .inr ⟨_, i, c, rfl, rfl, by rw [strOf_length]; exact sz5 hz, by show atI xs i = some c; exact q, k F H _ Nxt.refl st rfl⟩
      · cases e
    | _ => cases e
  | _ => cases x <;> cases e
def OO (X : Cx) (W : WX) (e : Option Expr) (m : En → Sto → Res (Option Int)) : Prop := ∃ t, PO X e t ∧ ∀ (ρ : En) (S : Sto) (io : Io) (F : Hp) (σ : St) (H : Hp) (Q : Option Int → Hp → Prop), Sta X.K io F S H → Mir.Env X.K io F ρ σ →
  RG X.K (fun _ _ a b => a = b) (m ρ S) io F H Q (fun c d H' => W c d σ H') → t σ H Q
def oNo : En → Sto → Res (Option Int) := fun _ S => .ok none S
def intV (d : Vl) (S : Sto) : Res (Option Int) := match d with
  | .p (.int i) => .ok (some i) S
  | _ => .bad
def oYes (m : ME) : En → Sto → Res (Option Int) := fun ρ S => (m ρ S).bind intV
theorem oo_none : OO X W none oNo := ⟨_, po_none, fun ρ S io F σ H Q st en h => RG.val (R := fun _ _ a b => a = b) (d := (none : Option Int)) (v := none) st rfl h⟩
theorem oo_some (he : OE X W e ma) : OO X W (some e) (oYes ma) := by
  obtain ⟨t, p, he⟩ := he
  refine ⟨_, po_some p, fun ρ S io F σ H Q st en h => ?_⟩
  refine he ρ S io F σ H _ st en (RG.bind h fun d S1 io1 F1 H1 v e1 n1 s1 r1 h1 => ?_)
  cases d with
  | c k => exact h1.elim
  | p x =>
    cases x with
    | int i => exact ⟨i, r1, RG.val (R := fun _ _ a b => a = b) (d := some i) (v := some i) s1 rfl h1⟩
    | _ => exact h1.elim
def cutP {A : Type} (xs : List A) (lo hi : Option Int) : List A := (xs.drop (HT.sIx xs.length 0 lo)).take (HT.sIx xs.length xs.length hi - HT.sIx xs.length 0 lo)
def pSl (lo hi : Option Int) : P → Option P
  | .lst xs => some (.lst (cutP xs lo hi))
  | .scr xs => some (.lst (cutP xs lo hi))
  | .tup xs => some (.tup (cutP xs lo hi))
  | .str x => if x.length ≤ 100000 then some (.str (cutP x lo hi)) else none
  | _ => none
def eSl (m : ME) (l h : En → Sto → Res (Option Int)) : ME := fun ρ S => (m ρ S).bind fun d S1 => (l ρ S1).bind fun lo S2 => (h ρ S2).bind fun hi S3 => op1 (pSl lo hi) d S3
theorem cutP_rep {K : PySem.W.Frag} {F : Hp} {xs : List P} {vs : List V} (r : RepL K F xs vs) (lo hi : Option Int) : RepL K F (cutP xs lo hi) (cutV vs lo hi) := by
  unfold cutP cutV
  rw [r.length]
  exact (r.drop _).take _
theorem ok_sl {K : PySem.W.Frag} {lo hi : Option Int} : UnOk K (fun x H Q => (rSlL K x lo hi H Q ∨ rSlA K x lo hi H Q) ∨ rSlS x lo hi H Q) (pSl lo hi) := by
  intro io F S H x v z Q st rx e k
  cases x with
  | lst xs =>
    cases e
    obtain ⟨a, vs, rfl, ha, ra⟩ := rx
    refine .inl (.inl ⟨a, vs, rfl, SqL.of ha, fun p hp => ?_⟩)
    obtain ⟨s3, n3⟩ := st.froze (o := .lst (cutV vs lo hi)) hp
    exact k _ _ _ n3 s3 ⟨p, _, rfl, upd_same, RepL.mono n3.fr (cutP_rep ra lo hi)⟩
  | scr xs =>
    cases e
    obtain ⟨a, vs, rfl, ha, ra⟩ := rx
    refine .inl (.inl ⟨a, vs, rfl, sql_mono st.sub ha, fun p hp => ?_⟩)
    obtain ⟨s3, n3⟩ := st.froze (o := .lst (cutV vs lo hi)) hp
    exact k _ _ _ n3 s3 ⟨p, _, rfl, upd_same, RepL.mono n3.fr (cutP_rep ra lo hi)⟩
  | tup xs =>
    cases e
    obtain ⟨a, vs, rfl, ha, ra⟩ := rx
    refine .inl (.inr ⟨a, vs, rfl, sqt_mono st.sub ha, fun hw => ?_, fun hw p hp => ?_⟩)
    · have hx : cutP xs lo hi = xs := by
        unfold cutP
        rw [← ra.length, hw.1, hw.2, ra.length]
        simp
      rw [hx] at k
      exact k F H _ Nxt.refl st ⟨a, vs, rfl, ha, ra⟩
    · obtain ⟨s3, n3⟩ := st.froze (o := .tup (cutV vs lo hi)) hp
      exact k _ _ _ n3 s3 ⟨p, _, rfl, SqT.of upd_same, RepL.mono n3.fr (cutP_rep ra lo hi)⟩
  | str xs =>
    have rx : _ = _ := rx
    subst rx
    have e : (if xs.length ≤ 100000 then some (P.str (cutP xs lo hi)) else none) = some z := e
    split at e
    · rename_i hz
      cases e
      refine .inr ⟨_, rfl, by rw [strOf_length]; exact sz5 hz, ?_⟩
      have q : cutS (strOf xs) lo hi = strOf (cutP xs lo hi) := by
        unfold cutS cutP
        rw [strOf_length]
        rfl
      rw [q]
      exact k F H _ Nxt.refl st rfl
    · cases e
  | _ => cases e
theorem oe_slice {lo hi : Option Expr} {p2 : Pos} {ml mh : En → Sto → Res (Option Int)} (ha : OE X W a ma) (hl : OO X W lo ml) (hh : OO X W hi mh) : OE X W (.Subscript a (.Slice lo hi none p2) pos) (eSl ma ml mh) := by
  obtain ⟨t, p, ha⟩ := ha
  obtain ⟨tl, pl, hl⟩ := hl
  obtain ⟨th, ph, hh⟩ := hh
  refine ⟨_, pe_slice (SlR.or (SlR.or sl_list sl_tupA) sl_str) p pl ph, fun ρ S io F σ H Q st en h => ?_⟩
  refine ha ρ S io F σ H _ st en (RG.bind h fun d S1 io1 F1 H1 v e1 n1 s1 r1 h1 => ?_)
  refine hl ρ S1 io1 F1 σ H1 _ s1 (en.nxt n1) (RG.bind h1 fun lo' S2 io2 F2 H2 v2 e2 n2 s2 r2 h2 => ?_)
  subst r2
  refine hh ρ S2 io2 F2 σ H2 _ s2 (en.nxt (n1.trans n2)) (RG.bind h2 fun hi' S3 io3 F3 H3 v3 e3 n3 s3 r3 h3 => ?_)
  subst r3
  exact s3.op1 (r := fun x H Q => (rSlL X.K x lo' hi' H Q ∨ rSlA X.K x lo' hi' H Q) ∨ rSlS x lo' hi' H Q) ok_sl (r1.mono (n2.trans n3).han (n2.trans n3).fr) h3
end
end Mir

namespace Mir
open PySem L2
theorem CallR.or {X : Cx} {f : Value} {r r' : List V → Hp → VK → Prop} (h : CallR X f r) (h' : CallR X f r') : CallR X f (fun xs H Q => r xs H Q ∨ r' xs H Q) := by
  intro pins s σ H xs us Q I rv q
  rcases q with q | q
  · exact h pins s σ H xs us Q I rv q
  · exact h' pins s σ H xs us Q I rv q
def intsOf : List P → Option (List Int)
  | [] => some []
  | .int i :: r => (intsOf r).map (i :: ·)
  | _ :: _ => none
def blsOf : List P → Option (List Bool)
  | [] => some []
  | .bl i :: r => (blsOf r).map (i :: ·)
  | _ :: _ => none
def strsOf : List P → Option (List (List Nat))
  | [] => some []
  | .str i :: r => (strsOf r).map (i :: ·)
  | _ :: _ => none
section
variable {K : PySem.W.Frag} {F H : Hp}
theorem blsOf_rep : ∀ {xs : List P} {vs : List V} {ns : List Bool}, RepL K F xs vs → blsOf xs = some ns → vs = ns.map V.bl ∧ xs = ns.map P.bl
  | [], vs, ns, r, e => by
    have e' : [] = ns := Option.some.inj e
    subst e'
    exact ⟨r, rfl⟩
  | x :: xs, vs, ns, ⟨v, w, e1, h1, h2⟩, e => by
    subst e1
    cases x with
    | bl i =>
      have e : (blsOf xs).map (i :: ·) = some ns := e
      cases q : blsOf xs with
      | none => rw [q] at e; cases e
      | some ms =>
        rw [q] at e
        have e' : i :: ms = ns := Option.some.inj e
        subst e'
        obtain ⟨a, b⟩ := blsOf_rep h2 q
        have h1 : v = .bl i := h1
        rw [a, b, h1]
        exact ⟨rfl, rfl⟩
    | _ => cases e
end
@[simp] theorem intsOf_map (ns : List Int) : intsOf (ns.map P.int) = some ns := by
  induction ns with
  | nil => rfl
  | cons n ns ih => show (intsOf (ns.map P.int)).map (n :: ·) = _; rw [ih]; rfl
@[simp] theorem blsOf_map (ns : List Bool) : blsOf (ns.map P.bl) = some ns := by
  induction ns with
  | nil => rfl
  | cons n ns ih => show (blsOf (ns.map P.bl)).map (n :: ·) = _; rw [ih]; rfl
@[simp] theorem strsOf_map (ns : List (List Nat)) : strsOf (ns.map P.str) = some ns := by
  induction ns with
  | nil => rfl
  | cons n ns ih => show (strsOf (ns.map P.str)).map (n :: ·) = _; rw [ih]; rfl
def ins (n : Int) : List Int → List Int
  | [] => [n]
  | m :: r => if n ≤ m then n :: m :: r else m :: ins n r
def pLen : List P → Option P
  | [.lst xs] => some (.int xs.length)
  | [.scr xs] => some (.int xs.length)
  | [.tup xs] => some (.int xs.length)
  | [.str x] => if x.length ≤ 100000 then some (.int x.length) else none
  | [.dct ks xs] => some (.int ks.length)
  | _ => none
def pSum : List P → Option P
  | [.lst xs] => (intsOf xs).map fun ns => .int ns.sum
  | _ => none
def pAll : List P → Option P
  | [.lst xs] => (blsOf xs).map fun ns => .bl (ns.all id)
  | _ => none
def pAny : List P → Option P
  | [.lst xs] => (blsOf xs).map fun ns => .bl (ns.any id)
  | _ => none
def pTuple : List P → Option P
  | [.lst xs] => some (.tup xs)
  | [.tup xs] => some (.tup xs)
  | _ => none
def pList : List P → Option P
  | [.lst xs] => some (.lst xs)
  | [.tup xs] => some (.lst xs)
  | _ => none
def pAbs : List P → Option P
  | [.int i] => some (.int (if i < 0 then -i else i))
  | _ => none
def pInt : List P → Option P
  | [.int i] => some (.int i)
  | [.bl b] => some (.int (if b then 1 else 0))
  | _ => none
def pMax2 : List P → Option P
  | [.int i, .int j] => some (.int (if j > i then j else i))
  | _ => none
def pMin2 : List P → Option P
  | [.int i, .int j] => some (.int (if j < i then j else i))
  | _ => none
def pDivmod : List P → Option P
  | [.int i, .int j] => if bDiv i j then some (.tup [.int (i / j), .int (i % j)]) else none
  | _ => none
section
variable {K : PySem.W.Frag}
theorem ok_len : CallOk K (fun xs H Q => (∃ x n, xs = [x] ∧ LenV K x H n ∧ Q (.int n) H) ∨ (∃ a kvs, xs = [V.ref a] ∧ H a = some (.dK kvs) ∧ Q (.int kvs.length) H)) pLen := by
  intro io F S H xs vs z Q st rx e k
  match xs, e with
  | [.lst xs], e =>
    obtain ⟨v, rfl, r1⟩ := rx.one
    obtain ⟨a, vs, rfl, ha, ra⟩ := r1
    cases e
    refine .inl ⟨_, vs.length, rfl, .inl ⟨vs, SqL.of ha, rfl⟩, ?_⟩
    rw [ra.length]
    exact k F H _ Nxt.refl st rfl
  | [.scr xs], e =>
    obtain ⟨v, rfl, r1⟩ := rx.one
    obtain ⟨a, vs, rfl, ha, ra⟩ := r1
    cases e
    refine .inl ⟨_, vs.length, rfl, .inl ⟨vs, sql_mono st.sub ha, rfl⟩, ?_⟩
    rw [ra.length]
    exact k F H _ Nxt.refl st rfl
  | [.tup xs], e =>
    obtain ⟨v, rfl, r1⟩ := rx.one
    obtain ⟨a, vs, rfl, ha, ra⟩ := r1
    cases e
    refine .inl ⟨_, vs.length, rfl, .inr ⟨vs, sqt_mono st.sub ha, rfl⟩, ?_⟩
    rw [ra.length]
    exact k F H _ Nxt.refl st rfl
  | [.str xs], e =>
    obtain ⟨v, rfl, r1⟩ := rx.one
    have r1 : v = .str (strOf xs) := r1
    subst r1
    have e : (if xs.length ≤ 100000 then some (P.int xs.length) else none) = some z := e
    split at e
    · rename_i hz
      cases e
      refine .inl ⟨_, xs.length, rfl, ⟨by rw [strOf_length]; exact sz5 hz, (strOf_length xs).symm⟩, ?_⟩
      exact k F H _ Nxt.refl st rfl
    · cases e
  | [.dct ks xs], e =>
    obtain ⟨v, rfl, r1⟩ := rx.one
    obtain ⟨a, kvs, rfl, ha, ra, rb⟩ := r1
    cases e
    refine .inr ⟨a, kvs, rfl, ha, ?_⟩
    have := ra.length
    rw [List.length_map] at this
    rw [this]
    exact k F H _ Nxt.refl st rfl
theorem ok_all : CallOk K (rAll K) pAll := by
  intro io F S H xs vs z Q st rx e k
  match xs, e with
  | [.lst xs], e =>
    obtain ⟨v, rfl, r1⟩ := rx.one
    obtain ⟨a, vs, rfl, ha, ra⟩ := r1
    have e : (blsOf xs).map (fun ns => P.bl (ns.all id)) = some z := e
    cases q : blsOf xs with
    | none => rw [q] at e; cases e
    | some ns =>
      rw [q] at e
      cases e
      obtain ⟨h1, h2⟩ := blsOf_rep ra q
      subst h1
      exact ⟨a, ns, rfl, SqL.of ha, k F H _ Nxt.refl st rfl⟩
theorem ok_abs : CallOk K (fun xs H Q => ∃ i, xs = [.int i] ∧ Q (.int (if i < 0 then -i else i)) H) pAbs := by
  intro io F S H xs vs z Q st rx e k
  match xs, e with
  | [.int i], e =>
    obtain ⟨v, rfl, r1⟩ := rx.one
    have r1 : v = .int i := r1
    subst r1
    cases e
    exact ⟨i, rfl, k F H _ Nxt.refl st rfl⟩
theorem ok_int : CallOk K (fun xs H Q => (∃ i, xs = [.int i] ∧ Q (.int i) H) ∨ ∃ k, xs = [.bl k] ∧ Q (.int (if k then 1 else 0)) H) pInt := by
  intro io F S H xs vs z Q st rx e k
  match xs, e with
  | [.int i], e =>
    obtain ⟨v, rfl, r1⟩ := rx.one
    have r1 : v = .int i := r1
    subst r1
    cases e
    exact .inl ⟨i, rfl, k F H _ Nxt.refl st rfl⟩
  | [.bl i], e =>
    obtain ⟨v, rfl, r1⟩ := rx.one
    have r1 : v = .bl i := r1
    subst r1
    cases e
    exact .inr ⟨i, rfl, k F H _ Nxt.refl st rfl⟩
theorem ok_max2 : CallOk K (fun xs H Q => ∃ i j, xs = [.int i, .int j] ∧ Q (.int (if j > i then j else i)) H) pMax2 := by
  intro io F S H xs vs z Q st rx e k
  match xs, e with
  | [.int i, .int j], e =>
    obtain ⟨v, w, rfl, r1, r2⟩ := rx.two
    have r1 : v = .int i := r1
    have r2 : w = .int j := r2
    subst r1; subst r2
    cases e
    exact ⟨i, j, rfl, k F H _ Nxt.refl st rfl⟩
theorem ok_min2 : CallOk K (fun xs H Q => ∃ i j, xs = [.int i, .int j] ∧ Q (.int (if j < i then j else i)) H) pMin2 := by
  intro io F S H xs vs z Q st rx e k
  match xs, e with
  | [.int i, .int j], e =>
    obtain ⟨v, w, rfl, r1, r2⟩ := rx.two
    have r1 : v = .int i := r1
    have r2 : w = .int j := r2
    subst r1; subst r2
    cases e
    exact ⟨i, j, rfl, k F H _ Nxt.refl st rfl⟩
theorem ok_divmod : CallOk K (fun xs H Q => ∃ i j, xs = [.int i, .int j] ∧ CDiv i j ∧ ∀ p, H p = none → Q (.ref p) (upd H p (.tup [.int (i / j), .int (i % j)]))) pDivmod := by
  intro io F S H xs vs z Q st rx e k
  match xs, e with
  | [.int i, .int j], e =>
    obtain ⟨v, w, rfl, r1, r2⟩ := rx.two
    have r1 : v = .int i := r1
    have r2 : w = .int j := r2
    subst r1; subst r2
    have e : (if bDiv i j then some (P.tup [.int (i / j), .int (i % j)]) else none) = some z := e
    split at e
    · rename_i hd
      cases e
      refine ⟨i, j, rfl, bDiv_ok i j hd, fun p hp => ?_⟩
      obtain ⟨s3, n3⟩ := st.froze (o := .tup [.int (i / j), .int (i % j)]) hp
      exact k _ _ _ n3 s3 ⟨p, _, rfl, SqT.of upd_same, .cons rfl (.cons rfl .nil)⟩
    · cases e
end
def txL (x : Str) : List Nat := x.cps.toList
def flatP : P → Bool
  | .non => true
  | .bl _ => true
  | .int _ => true
  | .str _ => true
  | _ => false
section
variable {K : PySem.W.Frag} {F H : Hp}
theorem flat_rep {x : P} {v : V} (h : flatP x = true) (r : Rep K F x v) : flatV v = true := by
  cases x with
  | non => have r : _ = _ := r; subst r; rfl
  | bl _ => have r : _ = _ := r; subst r; rfl
  | int _ => have r : _ = _ := r; subst r; rfl
  | str _ => have r : _ = _ := r; subst r; rfl
  | _ => cases h
theorem flat_eqv {x y : P} {v w : V} (hx : flatP x = true) (hy : flatP y = true) (r : Rep K F x v) (q : Rep K F y w) : eqV v w = x.eqv y := by
  cases x with
  | non =>
    have r : _ = _ := r
    subst r
    cases y <;> first | (have q : _ = _ := q; subst q; rfl) | cases hy
  | bl _ =>
    have r : _ = _ := r
    subst r
    cases y <;> first | (have q : _ = _ := q; subst q; rfl) | cases hy
  | int _ =>
    have r : _ = _ := r
    subst r
    cases y <;> first | (have q : _ = _ := q; subst q; rfl) | cases hy
  | str x =>
    have r : _ = _ := r
    subst r
    cases y with
    | str y =>
      have q : _ = _ := q
      subst q
      show (strOf x == strOf y) = (x == y)
      exact strOf_beq x y
    | non => have q : _ = _ := q; subst q; rfl
    | bl _ => have q : _ = _ := q; subst q; rfl
    | int _ => have q : _ = _ := q; subst q; rfl
    | _ => cases hy
  | _ => cases hx
theorem flats_rep : ∀ {xs : List P} {vs : List V}, xs.all flatP = true → RepL K F xs vs → vs.all flatV = true
  | [], vs, _, r => by
    have r : _ = _ := r
    subst r
    rfl
  | x :: xs, vs, h, ⟨v, w, e1, h1, h2⟩ => by
    subst e1
    rw [List.all_cons, Bool.and_eq_true] at h
    rw [List.all_cons, flat_rep h.1 h1, flats_rep h.2 h2]
    rfl
end
section
variable {X : Cx} {W : WX} {a b c e o : Expr} {ma mb mc mo : ME} {pos p apos : Pos}
theorem oe_len (hm : X.mg "len" = none) (ha : OE X W a ma) (hg : Gl X "len" := by rfl) (hs : starEach [a] X.env = (false, eval a X.env) :: starEach [] X.env := by rfl) : OE X W (.Call (.Name "len" p) [a] [] pos) (eCall pLen (aCons ma aNil)) := oe_callB (CallR.or call_len call_lenD) ok_len hm PySem.boot_len (oa_cons ha oa_nil hs) hg (by decide) (by decide) hs rfl
theorem oe_all (hc : X.calm = true) (hm : X.mg "all" = none) (ha : OE X W a ma) (hg : Gl X "all" := by rfl) (hs : starEach [a] X.env = (false, eval a X.env) :: starEach [] X.env := by rfl) : OE X W (.Call (.Name "all" p) [a] [] pos) (eCall pAll (aCons ma aNil)) := oe_callB (cr_all hc) ok_all hm (by decide +kernel) (oa_cons ha oa_nil hs) hg (by decide) (by decide) hs rfl
theorem oe_abs (hm : X.mg "abs" = none) (ha : OE X W a ma) (hg : Gl X "abs" := by rfl) (hs : starEach [a] X.env = (false, eval a X.env) :: starEach [] X.env := by rfl) : OE X W (.Call (.Name "abs" p) [a] [] pos) (eCall pAbs (aCons ma aNil)) := oe_callB call_abs ok_abs hm (by decide +kernel) (oa_cons ha oa_nil hs) hg (by decide) (by decide) hs rfl
theorem oe_max2 (hc : X.calm = true) (hm : X.mg "max" = none) (ha : OE X W a ma) (hb : OE X W b mb) (hg : Gl X "max" := by rfl) (hs : starEach [a, b] X.env = (false, eval a X.env) :: starEach [b] X.env := by rfl) (hs2 : starEach [b] X.env = (false, eval b X.env) :: starEach [] X.env := by rfl) (hp : (backTo pos (starEach [b] X.env)).any (·.1) = false := by rfl) :
    OE X W (.Call (.Name "max" p) [a, b] [] pos) (eCall pMax2 (aCons ma (aCons mb aNil))) := oe_callB (call_max2 hc) ok_max2 hm (by decide +kernel) (oa_cons ha (oa_cons hb oa_nil hs2) hs) hg (by decide) (by decide) hs hp
theorem oe_min2 (hc : X.calm = true) (hm : X.mg "min" = none) (ha : OE X W a ma) (hb : OE X W b mb) (hg : Gl X "min" := by rfl) (hs : starEach [a, b] X.env = (false, eval a X.env) :: starEach [b] X.env := by rfl) (hs2 : starEach [b] X.env = (false, eval b X.env) :: starEach [] X.env := by rfl) (hp : (backTo pos (starEach [b] X.env)).any (·.1) = false := by rfl) :
    OE X W (.Call (.Name "min" p) [a, b] [] pos) (eCall pMin2 (aCons ma (aCons mb aNil))) := oe_callB (call_min2 hc) ok_min2 hm (by decide +kernel) (oa_cons ha (oa_cons hb oa_nil hs2) hs) hg (by decide) (by decide) hs hp
theorem oe_divmod (hm : X.mg "divmod" = none) (ha : OE X W a ma) (hb : OE X W b mb) (hg : Gl X "divmod" := by rfl) (hs : starEach [a, b] X.env = (false, eval a X.env) :: starEach [b] X.env := by rfl) (hs2 : starEach [b] X.env = (false, eval b X.env) :: starEach [] X.env := by rfl) (hp : (backTo pos (starEach [b] X.env)).any (·.1) = false := by rfl) :
    OE X W (.Call (.Name "divmod" p) [a, b] [] pos) (eCall pDivmod (aCons ma (aCons mb aNil))) := oe_callB call_divmod ok_divmod hm (by decide +kernel) (oa_cons ha (oa_cons hb oa_nil hs2) hs) hg (by decide) (by decide) hs hp
theorem oe_intC (hm : X.mg "int" = none) (ha : OE X W a ma) (hg : Gl X "int" := by rfl) (hs : starEach [a] X.env = (false, eval a X.env) :: starEach [] X.env := by rfl) : OE X W (.Call (.Name "int" p) [a] [] pos) (eCall pInt (aCons ma aNil)) := oe_callTy call_int1 ok_int hm (by decide +kernel) (oa_cons ha oa_nil hs) hg (by decide) (by decide) hs rfl
def inP (y : P) (xs : List P) : Bool := xs.any fun x => x.eqv y
def occB (x s : List Nat) : Bool := !(Builtin.Str.occurrences (strOf s) (strOf x) 0 (strOf s).length 1).isEmpty
def pIn : P → P → Option P
  | y, .lst xs => if flatP y && xs.all flatP then some (.bl (inP y xs)) else none
  | y, .tup xs => if flatP y && xs.all flatP then some (.bl (inP y xs)) else none
  | .str x, .str s => some (.bl (occB x s))
  | _, _ => none
def pNotIn (x y : P) : Option P := match pIn x y with
  | some (.bl b) => some (.bl (!b))
  | _ => none
theorem inP_ok {K : PySem.W.Frag} {F : Hp} {y : P} {w : V} (hy : flatP y = true) (ry : Rep K F y w) : ∀ {xs : List P} {vs : List V}, xs.all flatP = true → RepL K F xs vs → inV w vs = inP y xs
  | [], vs, _, r => by
    have r : _ = _ := r
    subst r
    rfl
  | x :: xs, vs, h, ⟨v, u, e1, h1, h2⟩ => by
    subst e1
    rw [List.all_cons, Bool.and_eq_true] at h
    show (eqV v w || inV w u) = (x.eqv y || inP y xs)
    rw [flat_eqv h.1 hy h1 ry, inP_ok hy ry h.2 h2]
theorem flatR {K : PySem.W.Frag} {F H : Hp} {y : P} {w : V} (hy : flatP y = true) (r : RepR K F H y w) : Rep K F y w := by
  cases y <;> first | exact r | cases hy
theorem ok_in {K : PySem.W.Frag} : BinOk K (fun x y H Q => rIn K false x y H Q ∨ ∃ i j, x = .str i ∧ y = .str j ∧ Q (.bl (!(Builtin.Str.occurrences j i 0 j.length 1).isEmpty)) H) pIn := by
  intro io F S H x y v w z Q st rx ry e k
  cases y with
  | lst xs =>
    have e : (if flatP x && xs.all flatP then some (P.bl (inP x xs)) else none) = some z := by
      cases x <;> exact e
    split at e
    · rename_i hf
      rw [Bool.and_eq_true] at hf
      cases e
      obtain ⟨a, vs, rfl, ha, ra⟩ := ry
      have rx := flatR hf.1 rx
      refine .inl ⟨a, vs, rfl, .inl (SqL.of ha), flat_rep hf.1 rx, flats_rep hf.2 ra, ?_⟩
      rw [if_neg Bool.false_ne_true, inP_ok hf.1 rx hf.2 ra]
      exact k F H _ Nxt.refl st rfl
    · cases e
  | tup xs =>
    have e : (if flatP x && xs.all flatP then some (P.bl (inP x xs)) else none) = some z := by
      cases x <;> exact e
    split at e
    · rename_i hf
      rw [Bool.and_eq_true] at hf
      cases e
      obtain ⟨a, vs, rfl, ha, ra⟩ := ry
      have rx := flatR hf.1 rx
      refine .inl ⟨a, vs, rfl, .inr (sqt_mono st.sub ha), flat_rep hf.1 rx, flats_rep hf.2 ra, ?_⟩
      rw [if_neg Bool.false_ne_true, inP_ok hf.1 rx hf.2 ra]
      exact k F H _ Nxt.refl st rfl
    · cases e
  | str s =>
    cases x with
    | str x =>
      have rx : _ = _ := rx
      have ry : _ = _ := ry
      subst rx; subst ry
      cases e
      exact .inr ⟨_, _, rfl, rfl, k F H _ Nxt.refl st rfl⟩
    | _ => cases e
  | _ => cases x <;> cases e
def pMul : P → P → Option P
  | .int i, .int j => if bMul i j then some (.int (i * j)) else none
  | .lst xs, .int j => if 0 ≤ j ∧ j ≤ 1000 ∧ xs.length ≤ 1000 then some (.lst (List.replicate j.toNat xs).flatten) else none
  | _, _ => none
theorem repL_flat {K : PySem.W.Frag} {F : Hp} {xs : List P} {vs : List V} (r : RepL K F xs vs) : ∀ n, RepL K F (List.replicate n xs).flatten (List.replicate n vs).flatten
  | 0 => .nil
  | n + 1 => by
    rw [List.replicate_succ, List.replicate_succ, List.flatten_cons, List.flatten_cons]
    exact r.append (repL_flat r n)
theorem ok_mul {K : PySem.W.Frag} : BinOk K (fun x y H Q => (rI CMul fun i j => .int (i * j)) x y H Q ∨ rRep x y H Q) pMul := by
  intro io F S H x y v w z Q st rx ry e k
  cases y with
  | int j =>
    have ry : _ = _ := ry
    subst ry
    cases x with
    | int i =>
      have rx : _ = _ := rx
      subst rx
      have e : (if bMul i j then some (P.int (i * j)) else none) = some z := e
      split at e
      · rename_i hb
        cases e
        exact .inl ⟨i, j, rfl, rfl, bMul_ok i j hb, k F H _ Nxt.refl st rfl⟩
      · cases e
    | lst xs =>
      obtain ⟨a, vs, rfl, ha, ra⟩ := rx
      have e : (if 0 ≤ j ∧ j ≤ 1000 ∧ xs.length ≤ 1000 then some (P.lst (List.replicate j.toNat xs).flatten) else none) = some z := e
      split at e
      · rename_i hb
        cases e
        obtain ⟨h0, h1, h2⟩ := hb
        have hz : vs.length * j.toNat ≤ sizeLine := by
          rw [ra.length]
          have : j.toNat ≤ 1000 := by omega
          exact Nat.le_trans (Nat.mul_le_mul h2 this) (by decide)
        refine .inr ⟨a, j, vs, rfl, rfl, ha, by omega, by omega, hz, fun p hp => ?_⟩
        obtain ⟨s3, n3⟩ := st.froze (o := .lst (List.replicate j.toNat vs).flatten) hp
        exact k _ _ _ n3 s3 ⟨p, _, rfl, upd_same, RepL.mono n3.fr (repL_flat ra _)⟩
      · cases e
    | _ => cases e
  | _ => cases x <;> cases e
theorem oe_mul (ha : OE X W a ma) (hb : OE X W b mb) : OE X W (.BinOp a .Mult b pos) (eBin pMul ma mb) := oe_bin (OpR.or op_mul op_rep) ok_mul ha hb
end
end Mir

namespace Mir
open PySem L2
def tE (K : PySem.W.Frag) (W : WX) (m : ME) : TE := fun σ H Q => ∃ ρ S io F, Sta K io F S H ∧ Mir.Env K io F ρ σ ∧ RG K (RepA K) (m ρ S) io F H Q (fun c d H' => W c d σ H')
def tT (K : PySem.W.Frag) (W : WX) (m : MT) : TT := fun σ H Q => ∃ ρ S io F, Sta K io F S H ∧ Mir.Env K io F ρ σ ∧ RG K RepB (m ρ S) io F H Q (fun c d H' => W c d σ H')
section
variable {X : Cx} {W : WX}
theorem OE.pe {e : Expr} {m : ME} (h : OE X W e m) : PE X e (tE X.K W m) := by
  obtain ⟨t, p, h⟩ := h
  exact ⟨fun pins s σ H Q I ⟨ρ, S, io, F, st, en, q⟩ => p.run pins s σ H Q I (h ρ S io F σ H Q st en q)⟩
theorem OT.pt {e : Expr} {m : MT} (h : OT X W e m) : PT X e (tT X.K W m) := by
  obtain ⟨t, p, h⟩ := h
  exact ⟨fun pins s σ H Q I ⟨ρ, S, io, F, st, en, q⟩ => p.run pins s σ H Q I (h ρ S io F σ H Q st en q)⟩
end
abbrev MG := Vl → En → Sto → Res En
def Agree (js : List Nat) (σ σ' : St) : Prop := σ'.length = σ.length ∧ ∀ j : Nat, j ∉ js → σ'[j]? = σ[j]?
def RepEn (K : PySem.W.Frag) (js : List Nat) (σ : St) : Io → Hp → En → St → Prop := fun io F ρ σ' => Mir.Env K io F ρ σ' ∧ Agree js σ σ'
def OG (X : Cx) (W : WX) (tg : Expr) (js : List Nat) (m : MG) : Prop := ∃ t, PG X tg t ∧ ∀ (d : Vl) (v : V) (ρ : En) (S : Sto) (io : Io) (F : Hp) (σ : St) (H : Hp) (Q : St → Hp → Prop), Sta X.K io F S H → Mir.Env X.K io F ρ σ → RepV X.K io F d v →
  RG X.K (RepEn X.K js σ) (m d ρ S) io F H Q (fun c d H' => W c d σ H') → t v σ H Q
def tG (K : PySem.W.Frag) (W : WX) (js : List Nat) (m : MG) : TG := fun v σ H Q => ∃ d ρ S io F, Sta K io F S H ∧ Mir.Env K io F ρ σ ∧ RepV K io F d v ∧ RG K (RepEn K js σ) (m d ρ S) io F H Q (fun c d H' => W c d σ H')
theorem OG.pg {X : Cx} {W : WX} {tg : Expr} {js : List Nat} {m : MG} (h : OG X W tg js m) : PG X tg (tG X.K W js m) := by
  obtain ⟨t, p, h⟩ := h
  exact ⟨fun pins s σ H v u Q I r ⟨d, ρ, S, io, F, st, en, rv, q⟩ => p.run pins s σ H v u Q I r (h d v ρ S io F σ H Q st en rv q)⟩
def gNm (i : Nat) : MG := fun d ρ S => .ok (ρ.set i (some d)) S
theorem agree_refl {js : List Nat} {σ : St} : Agree js σ σ := ⟨rfl, fun _ _ => rfl⟩
theorem agree_set {i : Nat} {σ : St} {o : Option V} : Agree [i] σ (σ.set i o) := ⟨by rw [List.length_set], fun j hj => by
  rw [List.getElem?_set_ne]
  intro e
  exact hj (by rw [e]; exact List.mem_singleton.mpr rfl)⟩
theorem agree_trans {is js : List Nat} {a b c : St} (h : Agree is a b) (h' : Agree js b c) : Agree (is ++ js) a c := ⟨h'.1.trans h.1, fun j hj => by
  rw [List.mem_append, not_or] at hj
  rw [h'.2 j hj.2, h.2 j hj.1]⟩
theorem wipe_get : ∀ (τ : St) (vs : List Nat) (j : Nat), (L2.wipe τ vs)[j]? = if j ∈ vs then (τ[j]?).map (fun _ => none) else τ[j]? := by
  intro τ vs
  induction vs with
  | nil => intro j; simp [L2.wipe]
  | cons v vs ih =>
    intro j
    unfold L2.wipe
    by_cases hj : v = j
    · subst hj
      rw [if_pos List.mem_cons_self]
      by_cases hl : v < (L2.wipe τ vs).length
      · rw [List.getElem?_set_self hl]
        rw [wipe_length] at hl
        rw [List.getElem?_eq_getElem hl]
        rfl
      · rw [List.getElem?_eq_none (by rw [List.length_set]; omega)]
        rw [wipe_length] at hl
        rw [List.getElem?_eq_none (by omega)]
        rfl
    · rw [List.getElem?_set_ne hj, ih j]
      have : (j ∈ v :: vs) ↔ j ∈ vs := by
        constructor
        · intro h
          rcases List.mem_cons.mp h with e | h
          · exact absurd e.symm hj
          · exact h
        · exact List.mem_cons_of_mem _
      simp only [this]
theorem wipe_agree {js vs : List Nat} {σ σ' : St} (h : Agree js σ σ') (hs : ∀ j ∈ js, j ∈ vs) : L2.wipe σ' vs = L2.wipe σ vs := by
  apply List.ext_getElem?
  intro j
  rw [wipe_get, wipe_get]
  by_cases hj : j ∈ vs
  · rw [if_pos hj, if_pos hj]
    by_cases hl : j < σ.length
    · rw [List.getElem?_eq_getElem hl, List.getElem?_eq_getElem (by rw [h.1]; exact hl)]
      rfl
    · rw [List.getElem?_eq_none (by rw [h.1]; omega), List.getElem?_eq_none (by omega)]
  · rw [if_neg hj, if_neg hj]
    exact h.2 j fun z => hj (hs j z)
section
variable {X : Cx} {W : WX} {pos : Pos}
theorem og_name {i : Nat} {x : Str} (hN : X.N.Nodup) (hi : X.N[i]? = some x := by rfl) (hx : Loc X.env.scope x := by first | exact Or.inl rfl | exact Or.inr rfl) (hf : X.fn x = true ∨ X.env.scope.names.lookup x = some .local := by first | exact .inl rfl | exact .inr rfl) : OG X W (.Name x pos) [i] (gNm i) := by
  refine ⟨_, pg_name hN hi hx hf, fun d v ρ S io F σ H Q st en rv h => ?_⟩
  exact h io F H (σ.set i (some v)) Nxt.refl st ⟨en.set rv i, agree_set⟩
abbrev MGs := List Vl → En → Sto → Res En
def OGs (X : Cx) (W : WX) (ts : List Expr) (js : List Nat) (m : MGs) : Prop := ∃ t, PGs X ts t ∧ ∀ (ds : List Vl) (vs : List V) (ρ : En) (S : Sto) (io : Io) (F : Hp) (σ : St) (H : Hp) (Q : St → Hp → Prop), Sta X.K io F S H → Mir.Env X.K io F ρ σ → RepVs X.K io F ds vs →
  RG X.K (RepEn X.K js σ) (m ds ρ S) io F H Q (fun c d H' => W c d σ H') → t vs σ H Q
def gNl : MGs := fun ds ρ S => match ds with
  | [] => .ok ρ S
  | _ => .bad
def Res.nox {A : Type} (r : Res A) : Res A := match r with
  | .ok a S => .ok a S
  | _ => .bad
theorem RG.nox {K : PySem.W.Frag} {A B C D : Type} {R : Io → Hp → A → B → Prop} {R' : Io → Hp → C → D → Prop} {Q : D → Hp → Prop} {Q1 : B → Hp → Prop} {E E1 : XK} {io : Io} {F H : Hp} {r : Res A} {f : A → Sto → Res C} (h : RG K R' (r.nox.bind f) io F H Q E)
    (k : ∀ a S1 io1 F1 H1 v, r = .ok a S1 → Nxt io F H io1 F1 H1 → Sta K io1 F1 S1 H1 → R io1 F1 a v → RG K R' (f a S1) io1 F1 H1 Q E → Q1 v H1) : RG K R r io F H Q1 E1 := by
  cases r with
  | ok a S => exact fun io' F' H' v n s rp => k a S io' F' H' v rfl n s rp (RG.step n h)
  | exc c x S => exact h.elim
  | bad => exact h
def gCn (g : MG) (r : MGs) : MGs := fun ds ρ S => match ds with
  | d :: ds => (g d ρ S).nox.bind fun ρ1 S1 => r ds ρ1 S1
  | [] => .bad
theorem ogs_nil : OGs X W [] [] gNl := by
  refine ⟨_, pgs_nil, fun ds vs ρ S io F σ H Q st en rv h => ?_⟩
  cases ds with
  | nil =>
    have rv : _ = _ := rv
    subst rv
    exact ⟨rfl, h io F H σ Nxt.refl st ⟨en, agree_refl⟩⟩
  | cons d ds => exact h.elim
theorem RG.imp {K : PySem.W.Frag} {A B : Type} {R R1 : Io → Hp → A → B → Prop} {Q : B → Hp → Prop} {E : XK} {io : Io} {F H : Hp} {r : Res A} (hr : ∀ io F a b, R1 io F a b → R io F a b) (h : RG K R r io F H Q E) : RG K R1 r io F H Q E := by
  cases r with
  | ok a S => exact fun io' F' H' v n s rp => h io' F' H' v n s (hr _ _ _ _ rp)
  | exc c x S => exact h
  | bad => exact h
theorem RG.wish {K : PySem.W.Frag} {A B : Type} {R : Io → Hp → A → B → Prop} {Q : B → Hp → Prop} {E E1 : XK} {io : Io} {F H : Hp} {r : Res A} (hr : ∀ c d H, E c d H → E1 c d H) (h : RG K R r io F H Q E) : RG K R r io F H Q E1 := by
  cases r with
  | ok a S => exact h
  | exc c x S => exact fun io' F' H' d n s rp => hr _ _ _ (h io' F' H' d n s rp)
  | bad => exact h
theorem ogs_cons {e : Expr} {es : List Expr} {js ks : List Nat} {g : MG} {r : MGs} (h1 : OG X (fun _ _ _ _ => False) e js g) (h2 : OGs X (fun _ _ _ _ => False) es ks r) (hs : (assignEach (e :: es) X.env).map (·.2) = assign e X.env :: (assignEach es X.env).map (·.2) := by rfl) : OGs X (fun _ _ _ _ => False) (e :: es) (js ++ ks) (gCn g r) := by
  obtain ⟨t, p, h1⟩ := h1
  obtain ⟨u, q, h2⟩ := h2
  refine ⟨_, pgs_cons p q hs, fun ds vs ρ S io F σ H Q st en rv h => ?_⟩
  cases ds with
  | nil => exact h.elim
  | cons d ds =>
    obtain ⟨v, w, e1, r1, r2⟩ := rv
    subst e1
    refine ⟨v, w, rfl, ?_⟩
    refine h1 d v ρ S io F σ H _ st en r1 (RG.nox h fun ρ1 S1 io1 F1 H1 σ1 e1 n1 s1 rr h3 => ?_)
    refine h2 ds w ρ1 S1 io1 F1 σ1 H1 Q s1 rr.1 (r2.mono n1.han n1.fr) (RG.imp ?_ h3)
    rintro io F ρ2 σ2 ⟨a, b⟩
    exact ⟨a, agree_trans rr.2 b⟩
def gTp (n : Nat) (r : MGs) : MG := fun d ρ S => match d with
  | .p (.tup xs) => if xs.length = n then r (xs.map Vl.p) ρ S else .bad
  | _ => .bad
theorem og_tup {es : List Expr} {k n : Nat} {js : List Nat} {r : MGs} (hc : X.calm = true) (h : OGs X W es js r) (hn : (assignEach es X.env).length = n := by rfl) (hst : (assignEach es X.env).findIdx? (·.1) = none := by rfl) : OG X W (.Tuple es k pos) js (gTp n r) := by
  obtain ⟨t, p, h⟩ := h
  refine ⟨_, pg_tup hc p hn hst, fun d v ρ S io F σ H Q st en rv hw => ?_⟩
  cases d with
  | c k => exact hw.elim
  | p x =>
    cases x with
    | tup xs =>
      obtain ⟨a, vs, rfl, ha, ra⟩ := rv
      have hw : RG X.K (RepEn X.K js σ) (if xs.length = n then r (xs.map Vl.p) ρ S else .bad) io F H Q (fun c d H' => W c d σ H') := hw
      by_cases hl : xs.length = n
      · rw [if_pos hl] at hw
        exact ⟨a, vs, rfl, sqt_mono st.sub ha, by rw [ra.length]; exact hl, h _ vs ρ S io F σ H Q st en (RepVs.pure.mpr ra) hw⟩
      · rw [if_neg hl] at hw
        exact hw.elim
    | _ => exact hw.elim
end
def IterOk (K : PySem.W.Frag) (F : Hp) (xs : List P) (J : It) : Prop := ∀ (io' : Io) (F' : Hp) (S' : Sto) (H' : Hp) (i : Nat), Same F F' → Sta K io' F' S' H' →
  (∀ x, xs[i]? = some x → J.go i H' ∧ ∀ v H'', J.yld i H' v H'' → ∃ F'', Nxt io' F' H' io' F'' H'' ∧ Sta K io' F'' S' H'' ∧ Rep K F'' x v) ∧ (xs[i]? = none → J.stop i H')
def RepJ (K : PySem.W.Frag) : Io → Hp → List P → It → Prop := fun _ F xs J => IterOk K F xs J
abbrev MI := En → Sto → Res (List P)
def OI (X : Cx) (W : WX) (tg iter : Expr) (m : MI) : Prop := ∃ t, PI X tg iter t ∧ ∀ (ρ : En) (S : Sto) (io : Io) (F : Hp) (σ : St) (H : Hp) (R : It → Hp → Prop), Sta X.K io F S H → Mir.Env X.K io F ρ σ →
  RG X.K (RepJ X.K) (m ρ S) io F H R (fun c d H' => W c d σ H') → t σ H R
theorem PI.or {X : Cx} {tg iter : Expr} {a b : TI} (h : PI X tg iter a) (h' : PI X tg iter b) : PI X tg iter (fun σ H R => a σ H R ∨ b σ H R) := ⟨fun pins s σ H R I q => by
  rcases q with q | q
  · exact h.run pins s σ H R I q
  · exact h'.run pins s σ H R I q⟩
def itemsP : P → Option (List P)
  | .lst xs => some xs
  | .tup xs => some xs
  | .scr xs => some xs
  | .str x => some (x.map fun c => .str [c])
  | _ => none
def itOf (m : ME) : MI := fun ρ S => (m ρ S).bind fun d S1 => (frz d S1).bind fun x S2 => match itemsP x with
  | some xs => .ok xs S2
  | none => .bad
section
variable {K : PySem.W.Frag} {F : Hp}
end
section
variable {X : Cx} {W : WX} {a b e : Expr} {ma mb : ME} {pos p tpos : Pos} {tg : Expr}
def rangeP (lo : Int) (n : Nat) : List P := (List.range n).map fun (k : Nat) => P.int (lo + (k : Int))
def itRange1 (m : ME) : MI := fun ρ S => (m ρ S).bind fun d S1 => match d with
  | .p (.int j) => if j < 2 ^ 62 ∧ -(2 ^ 62) ≤ j then .ok (rangeP 0 j.toNat) S1 else .bad
  | _ => .bad
theorem iter_range {K : PySem.W.Frag} {F : Hp} {lo : Int} {n : Nat} : IterOk K F (rangeP lo n) (Itr lo n) := by
  intro io' F' S' H' i hF st
  have hl : (rangeP lo n)[i]? = if i < n then some (P.int (lo + (i : Int))) else none := by
    unfold rangeP
    rw [List.getElem?_map]
    by_cases hi : i < n
    · rw [if_pos hi, List.getElem?_range hi]; rfl
    · rw [if_neg hi, List.getElem?_eq_none (by simpa using hi)]; rfl
  refine ⟨fun x hx => ?_, fun hx => ?_⟩
  · rw [hl] at hx
    by_cases hi : i < n
    · rw [if_pos hi] at hx
      cases hx
      refine ⟨hi, fun v H'' y => ?_⟩
      obtain ⟨e, hv⟩ := y
      subst e
      exact ⟨F', Nxt.refl, st, hv⟩
    · rw [if_neg hi] at hx; cases hx
  · rw [hl] at hx
    by_cases hi : i < n
    · rw [if_pos hi] at hx; cases hx
    · exact Nat.le_of_not_lt hi
theorem oi_range1 (hm : X.mg "range" = none) (h : OE X W a ma) (hg : Gl X "range" := by rfl) (hs : starEach [a] X.env = (false, eval a X.env) :: starEach [] X.env := by rfl) : OI X W tg (.Call (.Name "range" p) [a] [] pos) (itRange1 ma) := by
  obtain ⟨t, q, h⟩ := h
  refine ⟨_, pi_range1 hg hm (pa_cons q pa_nil hs) hs, fun ρ S io F σ H R st en hw => ?_⟩
  refine h ρ S io F σ H _ st en (RG.bind hw fun d S1 io1 F1 H1 v e1 n1 s1 r1 h1 => ?_)
  cases d with
  | c k => exact h1.elim
  | p x =>
    cases x with
    | int j =>
      have r1 : v = .int j := r1
      subst r1
      dsimp only at h1
      by_cases hb : j < 2 ^ 62 ∧ -(2 ^ 62) ≤ j
      · rw [if_pos hb] at h1
        exact ⟨j, rfl, hb.2, hb.1, h1 io1 F1 H1 _ Nxt.refl s1 iter_range⟩
      · rw [if_neg hb] at h1
        exact h1.elim
    | _ => exact h1.elim
def enumP (n : Nat) : List P → List P
  | [] => []
  | x :: xs => .tup [.int n, x] :: enumP (n + 1) xs
theorem enumP_get : ∀ (xs : List P) (n i : Nat), (enumP n xs)[i]? = (xs[i]?).map fun x => P.tup [.int ((n + i : Nat) : Int), x]
  | [], n, i => by simp [enumP]
  | x :: xs, n, 0 => by simp [enumP]
  | x :: xs, n, i + 1 => by
    show (enumP (n + 1) xs)[i]? = _
    rw [enumP_get xs (n + 1) i]
    simp only [List.getElem?_cons_succ]
    congr 1
    funext x
    congr 2
    have : ((n + 1 + i : Nat) : Int) = ((n + (i + 1) : Nat) : Int) := by omega
    rw [this]
def itEnum (m : ME) : MI := fun ρ S => (m ρ S).bind fun d S1 => (frz d S1).bind fun x S2 => match x with
  | .lst xs => .ok (enumP 0 xs) S2
  | _ => .bad
theorem iter_enum {K : PySem.W.Frag} {F : Hp} {a : Addr} {xs : List P} {vs : List V} (h : SqL K F a vs) (r : RepL K F xs vs) : IterOk K F (enumP 0 xs) (Ite K a) := by
  intro io' F' S' H' i hF st
  have hs : SqL K H' a vs := sql_mono (hF.trans st.sub) h
  rw [enumP_get]
  refine ⟨fun x hx => ?_, fun hx => ?_⟩
  · cases q : xs[i]? with
    | none => rw [q] at hx; cases hx
    | some y =>
      rw [q] at hx
      have hx : P.tup [.int ((0 + i : Nat) : Int), y] = x := Option.some.inj hx
      subst hx
      obtain ⟨v, hv, hr⟩ := r.get q
      refine ⟨⟨vs, v, hs, hv⟩, fun w H'' yl => ?_⟩
      obtain ⟨T, u, rfl, hT, e, hu⟩ := yl
      subst e
      have := hu vs hs
      rw [hv] at this
      cases this
      obtain ⟨s3, n3⟩ := st.froze (o := .tup [.int (i : Nat), v]) hT
      refine ⟨_, n3, s3, T, _, rfl, SqT.of upd_same, .cons ?_ (.cons (Rep.mono n3.fr (Rep.mono hF hr)) .nil)⟩
      show V.int _ = V.int _
      rw [Nat.zero_add]
  · refine ⟨vs, hs, ?_⟩
    rw [r.length]
    cases q : xs[i]? with
    | none => exact List.getElem?_eq_none_iff.mp q
    | some y => rw [q] at hx; cases hx
theorem oi_enum {elts : List Expr} {kk : Nat} (hm : X.mg "enumerate" = none) (h : OE X W a ma) (hg : Gl X "enumerate" := by rfl) (hs : starEach [a] X.env = (false, eval a X.env) :: starEach [] X.env := by rfl) : OI X W (.Tuple elts kk tpos) (.Call (.Name "enumerate" p) [a] [] pos) (itEnum ma) := by
  obtain ⟨t, q, h⟩ := h
  refine ⟨_, pi_enum hg hm (pa_cons q pa_nil hs) hs, fun ρ S io F σ H R st en hw => ?_⟩
  refine h ρ S io F σ H _ st en (RG.bind hw fun d S1 io1 F1 H1 v e1 n1 s1 r1 h1 => ?_)
  obtain ⟨x, S2, F2, n2, s2, rp, hz, h2⟩ := s1.frz r1 h1
  cases x with
  | lst xs =>
    obtain ⟨a, vs, rfl, ha, ra⟩ := rp
    exact ⟨a, vs, rfl, SqL.of (s2.sub _ _ ha), h2 io1 F2 H1 _ Nxt.refl s2 (iter_enum (SqL.of ha) ra)⟩
  | _ => exact h2.elim
def zipP : List P → List P → List P
  | x :: xs, y :: ys => .tup [x, y] :: zipP xs ys
  | _, _ => []
def itZip (m m2 : ME) : MI := fun ρ S => (m ρ S).bind fun d S1 => (m2 ρ S1).bind fun d2 S2 => match d, d2 with
  | .p (.lst xs), .p (.lst ys) => .ok (zipP xs ys) S2
  | _, _ => .bad
end
end Mir

namespace Mir
open PySem L2
def sPass : MS := fun ρ S => .ok (.nx ρ) S
def sBreak : MS := fun ρ S => .ok (.bk ρ) S
def RF.thn (r : RF) (b : MS) : RF := match r with
  | .ok (.nx ρ) S => b ρ S
  | .ok (.rt d) S => .ok (.rt d) S
  | .ok (.bk ρ) S => .ok (.bk ρ) S
  | .ok (.ct ρ) S => .ok (.ct ρ) S
  | .ok (.xc ρ c x) S => .ok (.xc ρ c x) S
  | .bad => .bad
def sSeq (a b : MS) : MS := fun ρ S => (a ρ S).thn b
def sExpr (e : ME) : MS := fun ρ S => (e ρ S).go ρ fun _ S1 => .ok (.nx ρ) S1
def sRet (e : ME) : MS := fun ρ S => (e ρ S).go ρ fun d S1 => .ok (.rt d) S1
def sRetN : MS := fun ρ S => .ok (.rt (.p .non)) S
def sIf (t : MT) (a b : MS) : MS := fun ρ S => (t ρ S).go ρ fun c S1 => match c with
  | true => a ρ S1
  | false => b ρ S1
def sAsg (e : ME) (g : MG) : MS := fun ρ S => (e ρ S).go ρ fun d S1 => ((g d ρ S1).nox).go ρ fun ρ1 S2 => .ok (.nx ρ1) S2
def sPar (i j : Nat) (a : MA) : MS := fun ρ S => (a ρ S).go ρ fun ds S1 => match ds with
  | [d, d2] => .ok (.nx ((ρ.set i (some d)).set j (some d2))) S1
  | _ => .bad
def forGo (g : MG) (b : MS) : List P → En → Sto → RF
  | [], ρ, S => .ok (.nx ρ) S
  | x :: xs, ρ, S => ((g (.p x) ρ S).nox).go ρ fun ρ1 S1 => match b ρ1 S1 with
    | .ok (.nx ρ2) S2 => forGo g b xs ρ2 S2
    | .ok (.ct ρ2) S2 => forGo g b xs ρ2 S2
    | .ok (.bk ρ2) S2 => .ok (.nx ρ2) S2
    | .ok (.rt d) S2 => .ok (.rt d) S2
    | .ok (.xc ρ2 c x) S2 => .ok (.xc ρ2 c x) S2
    | .bad => .bad
def sFor (it : MI) (g : MG) (b : MS) : MS := fun ρ S => (it ρ S).go ρ fun xs S1 => forGo g b xs ρ S1
def whGo (t : MT) (b : MS) : Nat → En → Sto → RF
  | 0, _, _ => .bad
  | n + 1, ρ, S => (t ρ S).go ρ fun c S1 => match c with
    | false => .ok (.nx ρ) S1
    | true => match b ρ S1 with
      | .ok (.nx ρ2) S2 => whGo t b n ρ2 S2
      | .ok (.ct ρ2) S2 => whGo t b n ρ2 S2
      | .ok (.bk ρ2) S2 => .ok (.nx ρ2) S2
      | .ok (.rt d) S2 => .ok (.rt d) S2
      | .ok (.xc ρ2 c x) S2 => .ok (.xc ρ2 c x) S2
      | .bad => .bad
def sWhile (n : Nat) (t : MT) (b : MS) : MS := fun ρ S => whGo t b n ρ S
section
variable {X : Cx} {W : WX} {st : Stmt} {rest : List Stmt} {a b c e tg iter : Expr} {ma mb : ME} {m m2 : MS} {pos : Pos} {mt : MT}
theorem oss_nil : OSs X W [] sPass := ⟨_, pss_nil, fun ρ S io F σ H D s en h => h io F H σ Nxt.refl s en⟩
theorem oss_cons (h1 : OS X W st m) (h2 : OSs X W rest m2) : OSs X W (st :: rest) (sSeq m m2) := by
  obtain ⟨t, p, h1⟩ := h1
  obtain ⟨u, q, h2⟩ := h2
  refine ⟨_, pss_cons p q, fun ρ S io F σ H D s en h => ?_⟩
  refine h1 ρ S io F σ H _ s en ?_
  have h : RS X.K ((m ρ S).thn m2) io F H D W := h
  cases r : m ρ S with
  | bad => rw [r] at h; exact h
  | ok f S1 =>
    rw [r] at h
    cases f with
    | nx ρ1 => exact fun io1 F1 H1 σ1 n1 s1 en1 => h2 ρ1 S1 io1 F1 σ1 H1 D s1 en1 (RS.step n1 h)
    | rt d => exact h
    | bk ρ1 => exact h
    | ct ρ1 => exact h
    | xc ρ1 c x => exact h
theorem oss_one (h1 : OS X W st m) : OSs X W [st] m := by
  obtain ⟨t, p, h1⟩ := h1
  exact ⟨_, pss_one p, h1⟩
theorem os_break : OS X W (.Break pos) sBreak := ⟨_, ps_break, fun ρ S io F σ H D s en h => h io F H σ Nxt.refl s en⟩
theorem os_expr (he : OE X W e ma) (hs : swapsWith e none pos.line X.env = pure false := by rfl) : OS X W (.Expr e pos) (sExpr ma) := by
  obtain ⟨t, p, he⟩ := he
  refine ⟨_, ps_expr p hs, fun ρ S io F σ H D s en h => ?_⟩
  exact he ρ S io F σ H _ s en (RS.go en h fun d S1 io1 F1 H1 v e1 n1 s1 r1 h1 => h1 io1 F1 H1 σ Nxt.refl s1 (en.nxt n1))
theorem os_ret (he : OE X W e ma) : OS X W (.Return (some e) pos) (sRet ma) := by
  obtain ⟨t, p, he⟩ := he
  refine ⟨_, ps_ret p, fun ρ S io F σ H D s en h => ?_⟩
  exact he ρ S io F σ H _ s en (RS.go en h fun d S1 io1 F1 H1 v e1 n1 s1 r1 h1 => h1 io1 F1 H1 v Nxt.refl s1 r1)
theorem os_if {as bs : List Stmt} (hc : OT X W c mt) (ha : OSs X W as m) (hb : OSs X W bs m2) : OS X W (.If c as bs pos) (sIf mt m m2) := by
  obtain ⟨t, p, hc⟩ := hc
  obtain ⟨u, q, ha⟩ := ha
  obtain ⟨u2, q2, hb⟩ := hb
  refine ⟨_, ps_if p q q2, fun ρ S io F σ H D s en h => ?_⟩
  refine hc ρ S io F σ H _ s en (RS.go en h fun d S1 io1 F1 H1 v e1 n1 s1 r1 h1 => ?_)
  cases r1
  cases d with
  | true => exact iteT (ha ρ S1 io1 F1 σ H1 D s1 (en.nxt n1) h1)
  | false => exact iteF (hb ρ S1 io1 F1 σ H1 D s1 (en.nxt n1) h1)
theorem RS.nox {K : PySem.W.Frag} {io : Io} {F H : Hp} {A B : Type} {R : Io → Hp → A → B → Prop} {Q1 : B → Hp → Prop} {D : Ends} {ρ : En} {r : Res A} {f : A → Sto → RF} {E : XK} (h : RS K (r.nox.go ρ f) io F H D W)
    (k : ∀ a S1 io1 F1 H1 v, r = .ok a S1 → Nxt io F H io1 F1 H1 → Sta K io1 F1 S1 H1 → R io1 F1 a v → RS K (f a S1) io1 F1 H1 D W → Q1 v H1) : RG K R r io F H Q1 E := by
  cases r with
  | ok a S => exact fun io' F' H' v n s rp => k a S io' F' H' v rfl n s rp (RS.step n h)
  | exc c x S => exact h.elim
  | bad => exact h
theorem os_asg {js : List Nat} {g : MG} (he : OE X W e ma) (hg : OG X (fun _ _ _ _ => False) tg js g) (hs : swapsWithSole [tg] e pos.line X.env = pure false := by rfl) (hw : swappedStores [tg] e X.env = pure none := by rfl)
    (h1 : (assignEach [tg] X.env).map (·.2) = [assign tg X.env] := by rfl) : OS X W (.Assign [tg] e pos) (sAsg ma g) := by
  obtain ⟨t, p, he⟩ := he
  obtain ⟨u, q, hg⟩ := hg
  refine ⟨_, ps_asg p q hs hw h1, fun ρ S io F σ H D s en h => ?_⟩
  refine he ρ S io F σ H _ s en (RS.go en h fun d S1 io1 F1 H1 v e1 n1 s1 r1 h1 => ?_)
  exact hg d v ρ S1 io1 F1 σ H1 _ s1 (en.nxt n1) r1 (RS.nox h1 fun ρ1 S2 io2 F2 H2 σ2 e2 n2 s2 r2 h2 => h2 io2 F2 H2 σ2 Nxt.refl s2 r2.1)
theorem os_set {i : Nat} {x : Str} {pos' : Pos} (hN : X.N.Nodup) (he : OE X W e ma) (hi : X.N[i]? = some x := by rfl) (hx : Loc X.env.scope x := by first | exact Or.inl rfl | exact Or.inr rfl) (hs : swapsWith e (some (.Name x pos')) pos.line X.env = pure false := by rfl)
    (hf : X.fn x = true ∨ X.env.scope.names.lookup x = some .local := by first | exact .inl rfl | exact .inr rfl) : OS X W (.Assign [.Name x pos'] e pos) (sAsg ma (gNm i)) := by
  obtain ⟨t, p, he⟩ := he
  refine ⟨_, ps_set hN hi hx p hs hf, fun ρ S io F σ H D s en h => ?_⟩
  refine he ρ S io F σ H _ s en (RS.go en h fun d S1 io1 F1 H1 v e1 n1 s1 r1 h1 => ?_)
  exact h1 io1 F1 H1 (σ.set i (some v)) Nxt.refl s1 ((en.nxt n1).set r1 i)
theorem os_par {i j : Nat} {x y : Str} {mas : MA} {px py pt : Pos} {kt k2 pt2} (hc : X.calm = true) (hN : X.N.Nodup) (ha : OA X W [a, b] mas) (hi : X.N[i]? = some x := by rfl) (hj : X.N[j]? = some y := by rfl) (hij : i ≠ j := by decide)
    (hx : X.env.scope.names.lookup x = some .local := by rfl) (hy : X.env.scope.names.lookup y = some .local := by rfl)
    (hw : swappedStores [.Tuple [.Name x px, .Name y py] kt pt] (.Tuple [a, b] k2 pt2) X.env = pure (some [x, y]) := by rfl)
    (hs : swapsWithSole [.Tuple [.Name x px, .Name y py] kt pt] (.Tuple [a, b] k2 pt2) pos.line X.env = pure false := by rfl) :
    OS X W (.Assign [.Tuple [.Name x px, .Name y py] kt pt] (.Tuple [a, b] k2 pt2) pos) (sPar i j mas) := by
  obtain ⟨t, p, ha⟩ := ha
  refine ⟨_, ps_par hc hN hi hj hij hx hy p hw hs, fun ρ S io F σ H D s en h => ?_⟩
  refine ha ρ S io F σ H _ s en (RS.go en h fun ds S1 io1 F1 H1 vs e1 n1 s1 r1 h1 => ?_)
  match ds, r1, h1 with
  | [d, d2], ⟨v, w, e1, ra, ⟨v2, w2, e2, rb, e3⟩⟩, h1 =>
    have e3 : w2 = [] := e3
    subst e3; subst e2; subst e1
    exact ⟨v, v2, rfl, h1 io1 F1 H1 _ Nxt.refl s1 (((en.nxt n1).set ra i).set rb j)⟩
  | [], _, h1 => exact h1.elim
  | [_], _, h1 => exact h1.elim
  | _ :: _ :: _ :: _, _, h1 => exact h1.elim
theorem os_for {js : List Nat} {it : MI} {g : MG} {body : List Stmt} (hp : PassesOwn (model X.prog X.w) X.A X.env X.xe) (hc : X.calm = true) (hi : OI X W tg iter it) (hg : OG X (fun _ _ _ _ => False) tg js g) (hb : OSs X W body m)
    (hs : ∀ x, foldedSetIterable iter X.env x = pure x := by intro _; rfl) : OS X W (.For tg iter body [] pos) (sFor it g m) := by
  obtain ⟨t, p, hi⟩ := hi
  obtain ⟨u, q, hg⟩ := hg
  obtain ⟨u2, q2, hb⟩ := hb
  refine ⟨_, ps_for hp hc p q q2 hs, fun ρ S io F σ H D s en h => ?_⟩
  refine hi ρ S io F σ H _ s en (RS.go en h fun xs S1 io1 F1 H1 J e1 n1 s1 ij h1 => ?_)
  refine ⟨fun i k σ' H' => k = xs.length - i ∧ i ≤ xs.length ∧ ∃ ρ' S' io' F', Same F1 F' ∧ Sta X.K io' F' S' H' ∧ Mir.Env X.K io' F' ρ' σ' ∧ RS X.K (forGo g m (xs.drop i) ρ' S') io' F' H' D W,
    ⟨xs.length, by simp, Nat.zero_le _, ρ, S1, io1, F1, Same.refl _, s1, en.nxt n1, h1⟩, ?_⟩
  rintro i k σ' H' ⟨rfl, hle, ρ', S', io', F', hF, s', en', h'⟩
  obtain ⟨go, stop⟩ := ij io' F' S' H' i hF s'
  cases hx : xs[i]? with
  | none =>
    have hd : xs.drop i = [] := List.drop_eq_nil_of_le (List.getElem?_eq_none_iff.mp hx)
    rw [hd] at h'
    exact .inl ⟨stop hx, h' io' F' H' σ' Nxt.refl s' en'⟩
  | some x =>
    have hlt : i < xs.length := (List.getElem?_eq_some_iff.mp hx).1
    have hd : xs.drop i = x :: xs.drop (i + 1) := by
      rw [List.drop_eq_getElem_cons hlt]
      congr 1
      exact (List.getElem?_eq_some_iff.mp hx).2
    rw [hd] at h'
    obtain ⟨g1, g2⟩ := go x hx
    refine .inr ⟨g1, fun σ2 H2 => ∃ ρ2 S2 io2 F2, Same F1 F2 ∧ Sta X.K io2 F2 S2 H2 ∧ Mir.Env X.K io2 F2 ρ2 σ2 ∧ RS X.K (forGo g m (xs.drop (i + 1)) ρ2 S2) io2 F2 H2 D W, fun σ2 H2 hn => ⟨xs.length - (i + 1), by omega, rfl, hlt, hn⟩, fun v H'' hy => ?_⟩
    obtain ⟨F'', n2, s2, rv⟩ := g2 v H'' hy
    have h' : RS X.K (((g (.p x) ρ' S').nox).go ρ' fun ρ1 S1 => match m ρ1 S1 with
      | .ok (.nx ρ2) S2 => forGo g m (xs.drop (i + 1)) ρ2 S2
      | .ok (.ct ρ2) S2 => forGo g m (xs.drop (i + 1)) ρ2 S2
      | .ok (.bk ρ2) S2 => .ok (.nx ρ2) S2
      | .ok (.rt d) S2 => .ok (.rt d) S2
      | .ok (.xc ρ2 c x) S2 => .ok (.xc ρ2 c x) S2
      | .bad => .bad) io' F' H' D W := h'
    refine hg (.p x) v ρ' S' io' F'' σ' H'' _ s2 (en'.nxt n2) rv (RS.nox (RS.step n2 h') fun ρ3 S3 io3 F3 H3 σ3 e3 n3 s3 r3 h3 => ?_)
    refine hb ρ3 S3 io3 F3 σ3 H3 _ s3 r3.1 ?_
    have hF3 : Same F1 F3 := (hF.trans n2.fr).trans n3.fr
    cases r : m ρ3 S3 with
    | bad => rw [r] at h3; exact h3
    | ok f S4 =>
      rw [r] at h3
      cases f with
      | nx ρ4 => exact fun io4 F4 H4 σ4 n4 s4 en4 => ⟨ρ4, S4, io4, F4, hF3.trans n4.fr, s4, en4, RS.step n4 h3⟩
      | ct ρ4 => exact fun io4 F4 H4 σ4 n4 s4 en4 => ⟨ρ4, S4, io4, F4, hF3.trans n4.fr, s4, en4, RS.step n4 h3⟩
      | bk ρ4 => exact h3
      | rt d => exact h3
      | xc ρ4 c x => exact h3
theorem os_while {body : List Stmt} (n : Nat) (hp : PassesOwn (model X.prog X.w) X.A X.env X.xe) (hc : OT X W c mt) (hb : OSs X W body m) : OS X W (.While c body [] pos) (sWhile n mt m) := by
  obtain ⟨t, p, hc⟩ := hc
  obtain ⟨u, q, hb⟩ := hb
  refine ⟨_, ps_while hp p q, fun ρ S io F σ H D s en h => ?_⟩
  refine ⟨fun k σ' H' => ∃ ρ' S' io' F', Sta X.K io' F' S' H' ∧ Mir.Env X.K io' F' ρ' σ' ∧ RS X.K (whGo mt m k ρ' S') io' F' H' D W, ⟨n, ρ, S, io, F, s, en, h⟩, ?_⟩
  rintro k σ' H' ⟨ρ', S', io', F', s', en', h'⟩
  cases k with
  | zero => exact h'.elim
  | succ k =>
    refine hc ρ' S' io' F' σ' H' _ s' en' (RS.go en' h' fun d S1 io1 F1 H1 v e1 n1 s1 r1 h1 => ?_)
    cases r1
    cases d with
    | false => exact iteF (h1 io1 F1 H1 σ' Nxt.refl s1 (en'.nxt n1))
    | true =>
      refine iteT ⟨fun σ2 H2 => ∃ ρ2 S2 io2 F2, Sta X.K io2 F2 S2 H2 ∧ Mir.Env X.K io2 F2 ρ2 σ2 ∧ RS X.K (whGo mt m k ρ2 S2) io2 F2 H2 D W, fun σ2 H2 hn => ⟨k, Nat.lt_succ_self k, hn⟩, ?_⟩
      refine hb ρ' S1 io1 F1 σ' H1 _ s1 (en'.nxt n1) ?_
      dsimp only at h1
      cases r : m ρ' S1 with
      | bad => rw [r] at h1; exact h1
      | ok f S4 =>
        rw [r] at h1
        cases f with
        | nx ρ4 => exact fun io4 F4 H4 σ4 n4 s4 en4 => ⟨ρ4, S4, io4, F4, s4, en4, RS.step n4 h1⟩
        | ct ρ4 => exact fun io4 F4 H4 σ4 n4 s4 en4 => ⟨ρ4, S4, io4, F4, s4, en4, RS.step n4 h1⟩
        | bk ρ4 => exact h1
        | rt d => exact h1
        | xc ρ4 c x => exact h1
end
def tsYes : MT := fun _ S => .ok true S
def lcGo (g : MG) (t : MT) (e : ME) (ρ : En) : List P → Sto → Res (List P)
  | [], S => .ok [] S
  | x :: xs, S => (g (.p x) ρ S).nox.bind fun ρ1 S1 => (t ρ1 S1).nox.bind fun b S2 => match b with
    | true => (e ρ1 S2).nox.bind fun d S3 => (frz d S3).bind fun y S4 => (lcGo g t e ρ xs S4).bind fun ys S5 => .ok (y :: ys) S5
    | false => lcGo g t e ρ xs S2
def eLc (it : MI) (vs : List Nat) (g : MG) (t : MT) (e : ME) : ME := fun ρ S => (it ρ S).bind fun xs S1 => if xs.length ≤ 100000 then (lcGo g t e (wipeE ρ vs) xs S1).bind fun ys S2 => .ok (.p (.lst ys)) S2 else .bad
abbrev W0 : WX := fun _ _ _ _ => False
theorem pts_of_nil {X : Cx} : PTs X [] (tT X.K W0 tsYes) := ⟨fun pins s σ H Q I ⟨ρ, S, io, F, st, en, q⟩ => pts_nil.run pins s σ H Q I (RG.val (R := RepB) (d := true) (v := true) st rfl q)⟩
def OTs (X : Cx) (es : List Expr) (m : MT) : Prop := PTs X es (tT X.K W0 m)
theorem ots_nil {X : Cx} : OTs X [] tsYes := pts_of_nil
section
variable {K : PySem.W.Frag} {Q : VK} {E : XK}
theorem lc_turns {wi : TI} {xs : List P} {J : It} {js vs : List Nat} {g : MG} {t : MT} {e : ME} {ρ : En} {σ : St} {S1 : Sto} {io1 : Io} {F1 H1 : Hp} {fin : List P → Sto → Res Vl} (s1 : Sta K io1 F1 S1 H1) (en : Mir.Env K io1 F1 ρ σ) (hj : ∀ j ∈ js, j ∈ vs)
    (ij : IterOk K F1 xs J) (hz : xs.length ≤ 100000) (h : RG K (RepA K) ((lcGo g t e (wipeE ρ vs) xs S1).bind fin) io1 F1 H1 Q E)
    (D : Addr) (hD : H1 D = none)
    (done : ∀ ys S2 io2 F2 H2 acc, Nxt io1 F1 H1 io2 F2 H2 → Sta K io2 F2 S2 H2 → (∀ k : Nat, io2[k]? ≠ some (some D)) → F2 D = none → H2 D = some (.lst acc) → RepL K F2 ys acc → RG K (RepA K) (fin ys S2) io1 F1 H1 Q E → Q (.ref D) H2) :
    ∃ W : Nat → Nat → Hp → Prop, (∃ m, W 0 m (upd H1 D (.lst []))) ∧ ∀ i m H, W i m H →
      (J.stop i H ∧ Q (.ref D) H) ∨ (J.go i H ∧ ∃ Nx : Hp → Prop, (∀ H', Nx H' → ∃ m', m' < m ∧ W (i + 1) m' H') ∧ ∀ x H', J.yld i H x H' → tG K W0 js g x (L2.wipe σ vs) H' fun σ2 H2 => L2.wipe σ2 vs = L2.wipe σ vs ∧ tT K W0 t σ2 H2 fun b H3 =>
        if b = true then tE K W0 e σ2 H3 fun y H4 => ∃ acc, H4 D = some (.lst acc) ∧ acc.length < sizeLine ∧ Nx (upd H4 D (.lst (acc ++ [y]))) else Nx H3) := by
  let Inv' : Nat → Hp → Prop := fun i H => ∃ S io F acc ys, Nxt io1 F1 H1 io F H ∧ Sta K io F S H ∧ (∀ k : Nat, io[k]? ≠ some (some D)) ∧ F D = none ∧ H D = some (.lst acc) ∧ RepL K F ys acc ∧ ys.length ≤ i ∧ RG K (RepA K) ((lcGo g t e (wipeE ρ vs) (xs.drop i) S).bind fun zs S2 => fin (ys ++ zs) S2) io1 F1 H1 Q E
  refine ⟨fun i m H => m = xs.length - i ∧ i ≤ xs.length ∧ Inv' i H, ⟨xs.length, by simp, Nat.zero_le _, S1, io1, F1, [], [], ?_, s1.side (s1.notIn hD) (Same.free s1.sub hD), s1.notIn hD, Same.free s1.sub hD, upd_same, .nil, Nat.le_refl _, ?_⟩, ?_⟩
  · refine ⟨fun _ _ z => z, fun _ _ z => z, fun a o z _ => ?_, fun _ _ z => .inl z, fun a z => ?_, fun _ z => .inl z⟩
    · rw [upd_ne (ne_of_none z hD)]; exact z
    · by_cases q : a = D
      · subst q; exact hD
      · rw [upd_ne q] at z; exact z
  · exact h
  rintro i m H ⟨rfl, hle, S, io, F, acc, ys, nx, st, nD, fD, hH, ra, hl, hh⟩
  obtain ⟨go, stop⟩ := ij io F S H i nx.fr st
  cases hx : xs[i]? with
  | none =>
    have hd : xs.drop i = [] := List.drop_eq_nil_of_le (List.getElem?_eq_none_iff.mp hx)
    rw [hd] at hh
    have hh : RG K (RepA K) (fin (ys ++ []) S) io1 F1 H1 Q E := hh
    rw [List.append_nil] at hh
    exact .inl ⟨stop hx, done ys S io F H acc nx st nD fD hH ra hh⟩
  | some x =>
    have hlt : i < xs.length := (List.getElem?_eq_some_iff.mp hx).1
    have hd : xs.drop i = x :: xs.drop (i + 1) := by
      rw [List.drop_eq_getElem_cons hlt]
      congr 1
      exact (List.getElem?_eq_some_iff.mp hx).2
    rw [hd] at hh
    obtain ⟨g1, g2⟩ := go x hx
    refine .inr ⟨g1, Inv' (i + 1), fun H' q => ⟨xs.length - (i + 1), by omega, rfl, hlt, q⟩, fun v H'' hy => ?_⟩
    obtain ⟨F'', n2, s2, rv⟩ := g2 v H'' hy
    have keepD : ∀ {io' : Io} {F' : Hp} {H' : Hp}, Nxt io F H io' F' H' → (∀ k : Nat, io'[k]? ≠ some (some D)) ∧ F' D = none ∧ H' D = some (.lst acc) := fun {io' F' H'} n => by
      refine ⟨fun k e => ?_, ?_, n.out D _ hH nD⟩
      · rcases n.new k D e with z | z
        · exact nD k z
        · rw [hH] at z; cases z
      · cases q : F' D with
        | none => rfl
        | some o =>
          rcases n.nf D (by rw [q]; exact fun z => nomatch z) with z | z | ⟨k, z⟩
          · exact absurd fD z
          · rw [hH] at z; cases z
          · exact absurd z (nD k)
    have hh : RG K (RepA K) (((g (.p x) (wipeE ρ vs) S).nox.bind fun ρ1 S1 => (t ρ1 S1).nox.bind fun b S2 => match b with
      | true => (e ρ1 S2).nox.bind fun d S3 => (frz d S3).bind fun y S4 => (lcGo g t e (wipeE ρ vs) (xs.drop (i + 1)) S4).bind fun ys S5 => .ok (y :: ys) S5
      | false => lcGo g t e (wipeE ρ vs) (xs.drop (i + 1)) S2).bind fun zs S2 => fin (ys ++ zs) S2) io1 F1 H1 Q E := hh
    cases q1 : g (.p x) (wipeE ρ vs) S with
    | bad => rw [q1] at hh; exact hh.elim
    | exc c x S => rw [q1] at hh; exact hh.elim
    | ok ρ1 Sa =>
      rw [q1] at hh
      refine ⟨.p x, wipeE ρ vs, S, io, F'', s2, ((en.nxt nx).nxt n2).wipe vs, rv, ?_⟩
      rw [q1]
      intro io3 F3 H3 σ3 n3 s3 r3
      refine ⟨?_, ?_⟩
      · rw [wipe_agree r3.2 hj]
        have key : ∀ (τ : St) (vs : List Nat), L2.wipe (L2.wipe τ vs) vs = L2.wipe τ vs := by
          intro τ vs
          apply List.ext_getElem?
          intro j
          have k2 : ∀ (τ : St) (vs : List Nat) (j : Nat), (L2.wipe τ vs)[j]? = if j ∈ vs then (τ[j]?).map (fun _ => none) else τ[j]? := wipe_get
          rw [k2, k2]
          by_cases hj : j ∈ vs
          · rw [if_pos hj, if_pos hj]
            cases τ[j]? <;> rfl
          · rw [if_neg hj, if_neg hj]
        exact key σ vs
      have hh : RG K (RepA K) (((t ρ1 Sa).nox.bind fun b S2 => match b with
        | true => (e ρ1 S2).nox.bind fun d S3 => (frz d S3).bind fun y S4 => (lcGo g t e (wipeE ρ vs) (xs.drop (i + 1)) S4).bind fun ys S5 => .ok (y :: ys) S5
        | false => lcGo g t e (wipeE ρ vs) (xs.drop (i + 1)) S2).bind fun zs S2 => fin (ys ++ zs) S2) io1 F1 H1 Q E := hh
      cases q2 : t ρ1 Sa with
      | bad => rw [q2] at hh; exact hh.elim
      | exc c x S => rw [q2] at hh; exact hh.elim
      | ok b Sb =>
        rw [q2] at hh
        refine ⟨ρ1, Sa, io3, F3, s3, r3.1, ?_⟩
        rw [q2]
        intro io4 F4 H4 b' n4 s4 r4
        cases r4
        cases b with
        | false =>
          refine iteF ?_
          obtain ⟨d1, d2, d3⟩ := keepD ((n2.trans n3).trans n4)
          exact ⟨Sb, io4, F4, acc, ys, nx.trans ((n2.trans n3).trans n4), s4, d1, d2, d3, RepL.mono ((n2.trans n3).trans n4).fr ra, Nat.le_succ_of_le hl, hh⟩
        | true =>
          refine iteT ?_
          have hh : RG K (RepA K) (((e ρ1 Sb).nox.bind fun d S3 => (frz d S3).bind fun y S4 => (lcGo g t e (wipeE ρ vs) (xs.drop (i + 1)) S4).bind fun ys S5 => .ok (y :: ys) S5).bind fun zs S2 => fin (ys ++ zs) S2) io1 F1 H1 Q E := hh
          cases q3 : e ρ1 Sb with
          | bad => rw [q3] at hh; exact hh.elim
          | exc c x S => rw [q3] at hh; exact hh.elim
          | ok d Sc =>
            rw [q3] at hh
            refine ⟨ρ1, Sb, io4, F4, s4, r3.1.nxt n4, ?_⟩
            rw [q3]
            intro io5 F5 H5 w n5 s5 r5
            have hh : RG K (RepA K) (((frz d Sc).bind fun y S4 => (lcGo g t e (wipeE ρ vs) (xs.drop (i + 1)) S4).bind fun ys S5 => .ok (y :: ys) S5).bind fun zs S2 => fin (ys ++ zs) S2) io1 F1 H1 Q E := hh
            have n15 := ((n2.trans n3).trans n4).trans n5
            cases q4 : frz d Sc with
            | bad => rw [q4] at hh; exact hh.elim
            | exc c x S =>
              exact absurd q4 (frz_nox _ _ _ _ _)
            | ok y Sd =>
              rw [q4] at hh
              obtain ⟨y', Sd', F6, n6, s6, rp, hz6, _⟩ := s5.frz (C := Vl) (D := V) (R' := RepA K) (g := fun _ S => .ok (.p .non) S) (Q := fun _ _ => True) (E := fun _ _ _ => True) r5 (by rw [q4]; exact fun _ _ _ _ _ _ _ => trivial)
              rw [q4] at hz6; cases hz6
              obtain ⟨d1, d2, d3⟩ := keepD (n15.trans n6)
              have hlen : acc.length ≤ i := by rw [ra.length]; exact hl
              refine ⟨acc, d3, sz5l (by omega), ?_⟩
              have nx' := nx.trans (n15.trans n6)
              refine ⟨Sd, io5, F6, acc ++ [w], ys ++ [y], ?_, s6.side d1 d2, d1, d2, upd_same, (RepL.mono (n15.trans n6).fr ra).append (.cons rp .nil), by rw [List.length_append]; exact Nat.succ_le_succ hl, ?_⟩
              · refine ⟨nx'.han, nx'.fr, fun a o z zn => ?_, nx'.new, fun a z => ?_, nx'.nf⟩
                · rw [upd_ne (ne_of_none z hD)]; exact nx'.out a o z zn
                · by_cases q : a = D
                  · subst q; exact hD
                  · rw [upd_ne q] at z; exact nx'.stay a z
              · have hh : RG K (RepA K) (((lcGo g t e (wipeE ρ vs) (xs.drop (i + 1)) Sd).bind fun ys S5 => Res.ok (y :: ys) S5).bind fun zs S2 => fin (ys ++ zs) S2) io1 F1 H1 Q E := hh
                have q5 : (((lcGo g t e (wipeE ρ vs) (xs.drop (i + 1)) Sd).bind fun ys S5 => Res.ok (y :: ys) S5).bind fun zs S2 => fin (ys ++ zs) S2) = (lcGo g t e (wipeE ρ vs) (xs.drop (i + 1)) Sd).bind fun zs S2 => fin (ys ++ [y] ++ zs) S2 := by
                  cases lcGo g t e (wipeE ρ vs) (xs.drop (i + 1)) Sd with
                  | bad => rfl
                  | exc c x S => rfl
                  | ok zs S =>
                    show fin (ys ++ (y :: zs)) S = fin (ys ++ [y] ++ zs) S
                    rw [List.append_assoc]
                    rfl
                rw [q5] at hh
                exact hh
end
section
variable {X : Cx} {W : WX} {elt tg iter : Expr} {ifs : List Expr} {scope : Scope} {own : List (Str × Nat)} {pos : Pos} {it : MI} {js : List Nat} {g : MG} {t : MT} {e : ME}
theorem oe_lc (hc : X.calm = true) (hN : X.N.Nodup) (hi : OI X W tg iter it) (ok : BlkOk X.N X.env.scope scope own) (hj : ∀ j ∈ js, j ∈ own.map (·.2))
    (hg : ∀ (s : Shared) (H : Hp) (C : Addr) (cl : List (Str × Addr)) (fp : List Addr), OG (X.blk s H scope (compEnvC scope cl C X.env) fp) W0 tg js g) (ht : ∀ (s : Shared) (H : Hp) (C : Addr) (cl : List (Str × Addr)) (fp : List Addr), OTs (X.blk s H scope (compEnvC scope cl C X.env) fp) ifs t)
    (he : ∀ (s : Shared) (H : Hp) (C : Addr) (cl : List (Str × Addr)) (fp : List Addr), OE (X.blk s H scope (compEnvC scope cl C X.env) fp) W0 elt e) (hs : ∀ x, foldedSetIterable iter X.env x = pure x := by intro _; rfl) :
    OE X W (.ListComp elt [⟨tg, iter, ifs, 0⟩] scope pos) (eLc it (own.map (·.2)) g t e) := by
  obtain ⟨wi, p, hi⟩ := hi
  refine ⟨_, pe_lc (g := tG X.K W0 js g) (tt := tT X.K W0 t) (te := tE X.K W0 e) hc hN p ok (fun s H C cl fp => (hg s H C cl fp).pg) (fun s H C cl fp => ht s H C cl fp) (fun s H C cl fp => (he s H C cl fp).pe) hs, fun ρ S io F σ H Q st en h => ?_⟩
  refine hi ρ S io F σ H _ st en (RG.bind h fun xs S1 io1 F1 H1 J e1 n1 s1 ij h1 => ?_)
  intro D hD
  by_cases hz : xs.length ≤ 100000
  · rw [if_pos hz] at h1
    refine lc_turns (wi := wi) s1 (en.nxt n1) hj ij hz h1 D hD fun ys S2 io2 F2 H2 acc nx s2 nD fD hH ra h2 => ?_
    refine h2 io2 (upd F2 D (.lst acc)) H2 (.ref D) ?_ ?_ ⟨D, acc, rfl, upd_same, RepL.mono (upd_same_of fD) ra⟩
    · refine ⟨nx.han, nx.fr.trans (upd_same_of fD), nx.out, nx.new, nx.stay, fun a z => ?_⟩
      by_cases q : a = D
      · subst q; exact .inr (.inl hD)
      · rw [upd_ne q] at z; exact nx.nf a z
    · refine ⟨s2.len, s2.inj, fun a u z => ?_, s2.trk, fun k c z => ?_⟩
      · by_cases q : a = D
        · subst q; rw [upd_same] at z; cases z; exact hH
        · rw [upd_ne q] at z; exact s2.sub _ _ z
      · refine (s2.cel k c z).mono (fun _ _ z => z) (upd_same_of fD) (fun b hb hn => ?_) fun _ _ _ hu => hu
        rw [upd_ne (fun q => by subst q; exact nD k hb)]
        exact hn
  · rw [if_neg hz] at h1
    exact h1.elim
end
end Mir

namespace Mir
open PySem L2
def isL (S : Sto) : Vl → Bool
  | .p (.lst _) => true
  | .c k => (match S[k]? with
    | some (.lst _) => true
    | some (.lsv _) => true
    | _ => false)
  | _ => false
section
variable {K : PySem.W.Frag} {io : Io} {F : Hp} {S : Sto} {H : Hp}
theorem Sta.isL (st : Sta K io F S H) {d : Vl} {v : V} (r : RepV K io F d v) (h : Mir.isL S d = true) : tyV K "list" v H := by
  cases d with
  | p x =>
    cases x with
    | lst xs =>
      obtain ⟨a, vs, rfl, h1, _⟩ := r
      exact .inl ⟨rfl, vs, SqL.of (st.sub _ _ h1)⟩
    | _ => cases h
  | c k =>
    obtain ⟨a, ha, rfl⟩ := r
    unfold Mir.isL at h
    dsimp only at h
    cases hk : S[k]? with
    | none => rw [hk] at h; cases h
    | some c =>
      rw [hk] at h
      cases c with
      | lst xs =>
        obtain ⟨b, vs, hb, _, hH, _⟩ := st.cel k _ hk
        rw [ha] at hb; cases hb
        exact .inl ⟨rfl, vs, SqL.of hH⟩
      | lsv xs =>
        obtain ⟨b, vs, hb, _, hH, _⟩ := st.cel k _ hk
        rw [ha] at hb; cases hb
        exact .inl ⟨rfl, vs, SqL.of hH⟩
      | _ => cases h
theorem Sta.wlst (st : Sta K io F S H) {k : Nat} {a : Addr} {c : Cell} {xs : List P} {vs : List V} (hk : S[k]? = some c) (hc : ∀ x, c ≠ .fz x) (hc2 : c ≠ .res) (hc3 : ∀ ys, c ≠ .tup ys) (ha : io[k]? = some (some a)) (r : RepL K F xs vs) (hc4 : ∀ ys, c ≠ .dvs ys ∧ c ≠ .tpz ys := by exact fun _ => ⟨(fun z => nomatch z), (fun z => nomatch z)⟩) :
    Sta K io F (S.set k (.lst xs)) (upd H a (.lst vs)) ∧ Nxt io F H io F (upd H a (.lst vs)) := by
  obtain ⟨b, o, hb, hF, hH⟩ := (st.cel k c hk).there hc hc2 hc3 hc4
  rw [ha] at hb; cases hb
  exact st.write ha hF ⟨a, vs, ha, hF, upd_same, r⟩
theorem Sta.wlsv (st : Sta K io F S H) {k : Nat} {a : Addr} {c : Cell} {xs : List Vl} {vs : List V} (hk : S[k]? = some c) (hc : ∀ x, c ≠ .fz x) (hc2 : c ≠ .res) (hc3 : ∀ ys, c ≠ .tup ys) (ha : io[k]? = some (some a)) (r : RepVs K io F xs vs) (hj : ∀ j, Vl.c j ∈ xs → j < k) (hc4 : ∀ ys, c ≠ .dvs ys ∧ c ≠ .tpz ys := by exact fun _ => ⟨(fun z => nomatch z), (fun z => nomatch z)⟩) :
    Sta K io F (S.set k (.lsv xs)) (upd H a (.lst vs)) ∧ Nxt io F H io F (upd H a (.lst vs)) := by
  obtain ⟨b, o, hb, hF, hH⟩ := (st.cel k c hk).there hc hc2 hc3 hc4
  rw [ha] at hb; cases hb
  exact st.write ha hF ⟨a, vs, ha, hF, upd_same, r, hj⟩
theorem RepVs.append : ∀ {xs ys : List Vl} {vs ws : List V}, RepVs K io F xs vs → RepVs K io F ys ws → RepVs K io F (xs ++ ys) (vs ++ ws)
  | [], _, _, _, h, t => by
    have h' : _ = _ := h
    subst h'
    exact t
  | x :: xs, ys, vs, ws, h, t => by
    obtain ⟨v, r, e1, h1, h2⟩ := h
    subst e1
    exact ⟨v, r ++ ws, rfl, h1, RepVs.append h2 t⟩
theorem RepVs.set : ∀ {xs : List Vl} {vs : List V} {x : Vl} {v : V} (i : Nat), RepVs K io F xs vs → RepV K io F x v → RepVs K io F (xs.set i x) (vs.set i v)
  | [], _, _, _, _, h, _ => by
    have h' : _ = _ := h
    subst h'
    exact rfl
  | y :: xs, vs, x, v, 0, h, hx => by
    obtain ⟨u, r, e1, h1, h2⟩ := h
    subst e1
    exact ⟨v, r, rfl, hx, h2⟩
  | y :: xs, vs, x, v, i + 1, h, hx => by
    obtain ⟨u, r, e1, h1, h2⟩ := h
    subst e1
    exact ⟨u, r.set i v, rfl, h1, RepVs.set i h2 hx⟩
theorem RepVs.one {x : Vl} {vs : List V} (h : RepVs K io F [x] vs) : ∃ v, vs = [v] ∧ RepV K io F x v := by
  obtain ⟨v, r, e, h1, h2⟩ := h
  have h2 : r = [] := h2
  subst h2
  exact ⟨v, e, h1⟩
end
abbrev FM := Vl → List Vl → Sto → Res Vl
def MutOk (K : PySem.W.Frag) (r : V → List V → Hp → VK → Prop) (f : FM) : Prop := ∀ (io : Io) (F : Hp) (S : Sto) (H : Hp) (d : Vl) (v : V) (ds : List Vl) (vs : List V) (Q : VK) (E : XK), Sta K io F S H → RepV K io F d v → RepVs K io F ds vs →
  RG K (RepA K) (f d ds S) io F H Q E → r v vs H Q
def eMut (g : Sto → Vl → Bool) (f : FM) (o : ME) (a : MA) : ME := fun ρ S => (o ρ S).bind fun d S1 => if g S1 d then (a ρ S1).bind fun ds S2 => f d ds S2 else .bad
def GuardOk (K : PySem.W.Frag) (T : String) (g : Sto → Vl → Bool) : Prop := ∀ (io : Io) (F : Hp) (S : Sto) (H : Hp) (d : Vl) (v : V), Sta K io F S H → RepV K io F d v → g S d = true → tyV K T v H
theorem guardL {K : PySem.W.Frag} : GuardOk K "list" isL := fun io F S H d v st r h => st.isL r h
section
variable {X : Cx} {W : WX} {a b c e o : Expr} {ma mb mc mo : ME} {pos apos : Pos} {es : List Expr} {mas : MA}
theorem oe_mut {T id : String} {name : Str} {r : V → List V → Hp → VK → Prop} {g : Sto → Vl → Bool} {f : FM} (pa : PlainAttrs T) (slot : Slot T name id) (hty : typeOf (.builtin id) = pure (.type "method_descriptor")) (hm : MtR X id r) (hg : GuardOk X.K T g) (hf : MutOk X.K r f)
    (ho : OE X W o mo) (ha : OA X W (e :: es) mas)
    (hbase : attributeBase o name X.env (eval o X.env) = eval o X.env := by rfl)
    (hfew : ((backTo pos (starEach (e :: es) X.env)).all (fun x => !x.1) && (backToKw pos (keywordEach [] X.env)).all (fun x => x.1.isSome)
      && decide ((e :: es).length + ([] : List Keyword).length + (if ([] : List Keyword).isEmpty then 0 else 1) < 30)) = true := by rfl)
    (hline : (apos.endLine == pos.line) = true := by rfl) (hs : starEach (e :: es) X.env = (false, eval e X.env) :: starEach es X.env := by rfl) (hplain : (backTo pos (starEach es X.env)).any (·.1) = false := by rfl) :
    OE X W (.Call (.Attribute o name apos) (e :: es) [] pos) (eMut g f mo mas) := by
  obtain ⟨u, p, ho⟩ := ho
  obtain ⟨t, q, ha⟩ := ha
  refine ⟨_, pe_bm pa slot hty hm p q hbase hfew hline hs hplain, fun ρ S io F σ H Q st en h => ?_⟩
  refine ho ρ S io F σ H _ st en (RG.bind h fun d S1 io1 F1 H1 v e1 n1 s1 r1 h1 => ?_)
  by_cases q2 : g S1 d = true
  · rw [if_pos q2] at h1
    refine ⟨hg _ _ _ _ _ _ s1 r1 q2, ?_⟩
    refine ha ρ S1 io1 F1 σ H1 _ s1 (en.nxt n1) (RG.bind h1 fun d2 S2 io2 F2 H2 v2 e2 n2 s2 r2 h2 => ?_)
    exact hf io2 F2 S2 H2 d v d2 v2 Q _ s2 (r1.mono n2.han n2.fr) r2 h2
  · rw [if_neg q2] at h1
    exact h1.elim
theorem oe_mut0 {T id : String} {name : Str} {r : V → List V → Hp → VK → Prop} {g : Sto → Vl → Bool} {f : FM} (pa : PlainAttrs T) (slot : Slot T name id) (hty : typeOf (.builtin id) = pure (.type "method_descriptor")) (hm : MtR X id r) (hg : GuardOk X.K T g) (hf : MutOk X.K r f)
    (ho : OE X W o mo) (hbase : attributeBase o name X.env (eval o X.env) = eval o X.env := by rfl) (hline : (apos.endLine == pos.line) = true := by rfl) :
    OE X W (.Call (.Attribute o name apos) [] [] pos) (eMut g f mo aNil) := by
  obtain ⟨u, p, ho⟩ := ho
  refine ⟨_, pe_bm0 pa slot hty hm p hbase hline, fun ρ S io F σ H Q st en h => ?_⟩
  refine ho ρ S io F σ H _ st en (RG.bind h fun d S1 io1 F1 H1 v e1 n1 s1 r1 h1 => ?_)
  by_cases q2 : g S1 d = true
  · rw [if_pos q2] at h1
    refine ⟨hg _ _ _ _ _ _ s1 r1 q2, ?_⟩
    exact hf io1 F1 S1 H1 d v [] [] Q _ s1 r1 rfl h1
  · rw [if_neg q2] at h1
    exact h1.elim
def fApp : FM := fun d ds S => match d, ds with
  | .c k, [y] => (match S[k]? with
    | some (.lst _) => (frz y S).bind fun z S1 => (match S1[k]? with
      | some (.lst xs) => if xs.length < 100000 then .ok (.p .non) (S1.set k (.lst (xs ++ [z]))) else .bad
      | _ => .bad)
    | some (.lsv xs) => if xs.length < 100000 then (match y with
      | .p _ => .ok (.p .non) (S.set k (.lsv (xs ++ [y])))
      | .c j => if j < k then .ok (.p .non) (S.set k (.lsv (xs ++ [y]))) else .bad) else .bad
    | _ => .bad)
  | _, _ => .bad
theorem ok_app {K : PySem.W.Frag} : MutOk K rAppend fApp := by
  intro io F S H d v ds vs Q E st r1 r2 h
  match d, ds, r1, r2, h with
  | .p x, ds, _, _, h => exact h.elim
  | .c k, [], _, _, h => exact h.elim
  | .c k, _ :: _ :: _, _, _, h => exact h.elim
  | .c k, [y], r1, r2, h =>
    obtain ⟨a, ha, rfl⟩ := r1
    obtain ⟨w, rfl, rw'⟩ := r2.one
    unfold fApp at h
    dsimp only at h
    cases hk : S[k]? with
    | none => rw [hk] at h; exact h.elim
    | some c =>
      rw [hk] at h
      cases c with
      | lst xs0 =>
        dsimp only at h
        obtain ⟨z, S1, F1, n1, s1, rp, hz, h1⟩ := st.frz rw' h
        cases hk1 : S1[k]? with
        | none => rw [hk1] at h1; exact h1.elim
        | some c1 =>
          rw [hk1] at h1
          cases c1 with
          | lst xs =>
            dsimp only at h1
            by_cases q : xs.length < 100000
            · rw [if_pos q] at h1
              obtain ⟨b, us, hb, hF, hH, hr⟩ := s1.cel k _ hk1
              rw [ha] at hb; cases hb
              refine ⟨a, us, w, rfl, rfl, hH, by rw [hr.length]; exact sz5l q, ?_⟩
              obtain ⟨s2, n2⟩ := s1.wlst hk1 (fun _ z => nomatch z) (fun z => nomatch z) (fun _ z => nomatch z) ha (hr.append (.cons rp .nil))
              exact h1 io F1 _ .non n2 s2 rfl
            · rw [if_neg q] at h1; exact h1.elim
          | _ => exact h1.elim
      | lsv xs =>
        dsimp only at h
        by_cases q : xs.length < 100000
        · rw [if_pos q] at h
          obtain ⟨b, us, hb, hF, hH, hr, hlt⟩ := st.cel k _ hk
          rw [ha] at hb; cases hb
          refine ⟨a, us, w, rfl, rfl, hH, by rw [hr.length]; exact sz5l q, ?_⟩
          have key : ∀ (hj : ∀ j, y = .c j → j < k), RG K (RepA K) (.ok (.p .non) (S.set k (.lsv (xs ++ [y])))) io F H Q E → Q .non (upd H a (.lst (us ++ [w]))) := fun hj h => by
            obtain ⟨s2, n2⟩ := st.wlsv hk (fun _ z => nomatch z) (fun z => nomatch z) (fun _ z => nomatch z) ha (hr.append (ys := [y]) (ws := [w]) ⟨w, [], rfl, rw', rfl⟩) (fun j hm => by
              rcases List.mem_append.mp hm with z | z
              · exact hlt j z
              · exact hj j (List.mem_singleton.mp z).symm)
            exact h io F _ .non n2 s2 rfl
          cases y with
          | p x => exact key (fun j z => nomatch z) h
          | c j =>
            dsimp only at h
            by_cases q2 : j < k
            · rw [if_pos q2] at h
              exact key (fun i z => by cases z; exact q2) h
            · rw [if_neg q2] at h; exact h.elim
        · rw [if_neg q] at h; exact h.elim
      | _ => exact h.elim
theorem oe_append (ho : OE X W o mo) (ha : OE X W a ma) (hbase : attributeBase o "append" X.env (eval o X.env) = eval o X.env := by rfl)
    (hfew : ((backTo pos (starEach [a] X.env)).all (fun x => !x.1) && (backToKw pos (keywordEach [] X.env)).all (fun x => x.1.isSome)
      && decide (([a] : List Expr).length + ([] : List Keyword).length + (if ([] : List Keyword).isEmpty then 0 else 1) < 30)) = true := by rfl) (hline : (apos.endLine == pos.line) = true := by rfl) (hs : starEach [a] X.env = (false, eval a X.env) :: starEach [] X.env := by rfl) :
    OE X W (.Call (.Attribute o "append" apos) [a] [] pos) (eMut isL fApp mo (aCons ma aNil)) := oe_mut PySem.F.plainAttrs_list PySem.F.slot_list_append PySem.F.type_list_append mt_append guardL ok_app ho (oa_cons ha oa_nil hs) hbase hfew hline hs rfl
def fPop : FM := fun d ds S => match d, ds with
  | .c k, [] => (match S[k]? with
    | some (.lst xs) => (match xs[xs.length - 1]? with
      | some y => .ok (.p y) (S.set k (.lst xs.dropLast))
      | none => .bad)
    | _ => .bad)
  | _, _ => .bad
theorem ok_pop {K : PySem.W.Frag} : MutOk K rPop fPop := by
  intro io F S H d v ds vs Q E st r1 r2 h
  match d, ds, r1, r2, h with
  | .p x, ds, _, _, h => exact h.elim
  | .c k, _ :: _, _, _, h => exact h.elim
  | .c k, [], r1, r2, h =>
    obtain ⟨a, ha, rfl⟩ := r1
    have r2 : _ = _ := r2
    subst r2
    unfold fPop at h
    dsimp only at h
    split at h
    · rename_i xs hk
      cases hy : xs[xs.length - 1]? with
      | none => rw [hy] at h; exact h.elim
      | some y =>
        rw [hy] at h
        obtain ⟨b, us, hb, hF, hH, hr⟩ := st.cel k _ hk
        rw [ha] at hb; cases hb
        obtain ⟨w, hw, rw'⟩ := hr.get hy
        refine ⟨a, us, w, rfl, rfl, hH, by rw [hr.length]; exact hw, ?_⟩
        obtain ⟨s2, n2⟩ := st.wlst hk (fun _ z => nomatch z) (fun z => nomatch z) (fun _ z => nomatch z) ha hr.dropLast
        exact h io F _ w n2 s2 (Rep.mono n2.fr rw')
    · exact h.elim
theorem oe_pop (ho : OE X W o mo) (hbase : attributeBase o "pop" X.env (eval o X.env) = eval o X.env := by rfl) (hline : (apos.endLine == pos.line) = true := by rfl) :
    OE X W (.Call (.Attribute o "pop" apos) [] [] pos) (eMut isL fPop mo aNil) := oe_mut0 PySem.F.plainAttrs_list PySem.F.slot_list_pop PySem.F.type_list_pop mt_pop guardL ok_pop ho hbase hline
def ixV (d i : Vl) (S : Sto) : Res Vl := match d, i with
  | .c k, .p (.int j) => (match S[k]? with
    | some (.lsv xs) => (match atI xs j with
      | some x => .ok x S
      | none => .bad)
    | _ => op2 pIx d i S)
  | _, _ => op2 pIx d i S
def eItem (a b : ME) : ME := fun ρ S => (a ρ S).bind fun d S1 => (b ρ S1).bind fun i S2 => ixV (nv S2 d) i S2
theorem atI_repV {K : PySem.W.Frag} {io : Io} {F : Hp} {xs : List Vl} {vs : List V} {i : Int} {z : Vl} (r : RepVs K io F xs vs) (e : atI xs i = some z) : ∃ v, atI vs i = some v ∧ RepV K io F z v := by
  unfold atI at e ⊢
  rw [r.length]
  cases q : ixN xs.length i with
  | none => rw [q] at e; cases e
  | some k =>
    rw [q] at e
    exact r.get e
theorem oe_it (ha : OE X W a ma) (hb : OE X W b mb) (hs : PlainIx b := by intro _ _; rfl) : OE X W (.Subscript a b pos) (eItem ma mb) := by
  obtain ⟨ta, pa, ha⟩ := ha
  obtain ⟨tb, pb, hb⟩ := hb
  refine ⟨_, pe_ix (IxR.or (IxR.or ix_list ix_tup) ix_str) pa pb hs, fun ρ S io F σ H Q st en h => ?_⟩
  refine ha ρ S io F σ H _ st en (RG.bind h fun d S1 io1 F1 H1 v e1 n1 s1 r1 h1 => ?_)
  refine hb ρ S1 io1 F1 σ H1 _ s1 (en.nxt n1) (RG.bind h1 fun d2 S2 io2 F2 H2 v2 e2 n2 s2 r2 h2 => ?_)
  replace r1 := s2.nv (r1.mono n2.han n2.fr)
  generalize nv S2 d = d at r1 h2
  unfold ixV at h2
  split at h2
  · rename_i k j
    split at h2
    · rename_i xs hk
      cases hx : atI xs j with
      | none => rw [hx] at h2; exact h2.elim
      | some x =>
        rw [hx] at h2
        obtain ⟨a', ha', rfl⟩ := r1
        have r2 : v2 = .int j := r2
        subst r2
        obtain ⟨b, us, hb, hF, hH, hr, _⟩ := s2.cel k _ hk
        rw [ha'] at hb; cases hb
        obtain ⟨u, hu, ru⟩ := atI_repV hr hx
        exact .inl (.inl ⟨a', us, j, u, rfl, rfl, SqL.of hH, hu, h2 io2 F2 H2 u Nxt.refl s2 ru⟩)
    · exact s2.op2 ok_ix r1 r2 h2
  · exact s2.op2 ok_ix r1 r2 h2
def setV (o i v : Vl) (S : Sto) : Res Unit := match o, i with
  | .c k, .p (.int j) => (match S[k]? with
    | some (.lst _) => (frz v S).bind fun z S1 => (match S1[k]? with
      | some (.lst xs) => (match ixN xs.length j with
        | some n => .ok () (S1.set k (.lst (xs.set n z)))
        | none => .bad)
      | _ => .bad)
    | some (.lsv xs) => (match ixN xs.length j with
      | some n => (match v with
        | .p _ => .ok () (S.set k (.lsv (xs.set n v)))
        | .c m => if m < k then .ok () (S.set k (.lsv (xs.set n v))) else .bad)
      | none => .bad)
    | _ => .bad)
  | _, _ => .bad
def gSubM (o i : ME) : MG := fun d ρ S => (o ρ S).nox.bind fun a S1 => (i ρ S1).nox.bind fun b S2 => (setV a b d S2).bind fun _ S3 => .ok ρ S3
theorem Sta.setV {K : PySem.W.Frag} {io : Io} {F : Hp} {S : Sto} {H : Hp} {o i d : Vl} {vo vi v : V} {C D : Type} {R' : Io → Hp → C → D → Prop} {g : Unit → Sto → Res C} {Q : D → Hp → Prop} {E : XK} (st : Sta K io F S H) (ro : RepV K io F o vo) (ri : RepV K io F i vi) (rv : RepV K io F d v)
    (h : RG K R' ((Mir.setV o i d S).bind g) io F H Q E) : ∃ p xs k j, vo = .ref p ∧ vi = .int k ∧ H p = some (.lst xs) ∧ ixN xs.length k = some j ∧ ∃ S' F', Nxt io F H io F' (upd H p (.lst (xs.set j v))) ∧ Sta K io F' S' (upd H p (.lst (xs.set j v))) ∧ RG K R' (g () S') io F' (upd H p (.lst (xs.set j v))) Q E := by
  unfold Mir.setV at h
  split at h
  · rename_i k j
    obtain ⟨a, ha, rfl⟩ := ro
    have ri : vi = .int j := ri
    subst ri
    cases hk : S[k]? with
    | none => rw [hk] at h; exact h.elim
    | some c =>
      rw [hk] at h
      cases c with
      | lst xs0 =>
        dsimp only at h
        have q : ((Mir.frz d S).bind fun z S1 => (match S1[k]? with
          | some (.lst xs) => (match ixN xs.length j with
            | some n => Res.ok () (S1.set k (.lst (xs.set n z)))
            | none => .bad)
          | _ => .bad)).bind g = (Mir.frz d S).bind fun z S1 => (match S1[k]? with
          | some (.lst xs) => (match ixN xs.length j with
            | some n => Res.ok () (S1.set k (.lst (xs.set n z)))
            | none => .bad)
          | _ => .bad).bind g := by cases Mir.frz d S <;> rfl
        rw [q] at h
        obtain ⟨z, S1, F1, n1, s1, rp, hz, h1⟩ := st.frz rv h
        cases hk1 : S1[k]? with
        | none => rw [hk1] at h1; exact h1.elim
        | some c1 =>
          rw [hk1] at h1
          cases c1 with
          | lst xs =>
            dsimp only at h1
            cases hn : ixN xs.length j with
            | none => rw [hn] at h1; exact h1.elim
            | some n =>
              rw [hn] at h1
              obtain ⟨b, us, hb, hF, hH, hr⟩ := s1.cel k _ hk1
              rw [ha] at hb; cases hb
              obtain ⟨s2, n2⟩ := s1.wlst hk1 (fun _ z => nomatch z) (fun z => nomatch z) (fun _ z => nomatch z) ha (hr.set n rp)
              exact ⟨a, us, j, n, rfl, rfl, hH, by rw [hr.length]; exact hn, _, F1, n1.trans n2, s2, RG.step n2 h1⟩
          | _ => exact h1.elim
      | lsv xs =>
        dsimp only at h
        cases hn : ixN xs.length j with
        | none => rw [hn] at h; exact h.elim
        | some n =>
          rw [hn] at h
          obtain ⟨b, us, hb, hF, hH, hr, hlt⟩ := st.cel k _ hk
          rw [ha] at hb; cases hb
          have key : ∀ (hj : ∀ j, d = .c j → j < k), RG K R' ((Res.ok () (S.set k (.lsv (xs.set n d)))).bind g) io F H Q E → ∃ S' F', Nxt io F H io F' (upd H a (.lst (us.set n v))) ∧ Sta K io F' S' (upd H a (.lst (us.set n v))) ∧ RG K R' (g () S') io F' (upd H a (.lst (us.set n v))) Q E := fun hj h => by
            obtain ⟨s2, n2⟩ := st.wlsv hk (fun _ z => nomatch z) (fun z => nomatch z) (fun _ z => nomatch z) ha (hr.set n rv) (fun j hm => by
              rcases List.mem_or_eq_of_mem_set hm with z | z
              · exact hlt j z
              · exact hj j z.symm)
            exact ⟨_, F, n2, s2, RG.step n2 h⟩
          refine ⟨a, us, j, n, rfl, rfl, hH, by rw [hr.length]; exact hn, ?_⟩
          cases d with
          | p x => exact key (fun j z => nomatch z) h
          | c m =>
            dsimp only at h
            by_cases q2 : m < k
            · rw [if_pos q2] at h
              exact key (fun i z => by cases z; exact q2) h
            · rw [if_neg q2] at h; exact h.elim
      | _ => exact h.elim
  · exact h.elim
theorem og_sub (ho : OE X W0 o mo) (hi : OE X W0 a ma)
    (hs : ∀ v, assign (.Subscript o a pos) X.env v = (do
      let ov ← holding [v] (eval o X.env)
      let iv ← holding [v, ov] (eval a X.env)
      standAt pos
      holding [v, ov, iv] (setItem ov iv v)
      release [v, ov, iv] []) := by intro _; rfl) : OG X W0 (.Subscript o a pos) [] (gSubM mo ma) := by
  obtain ⟨to, po, ho⟩ := ho
  obtain ⟨ti, pi, hi⟩ := hi
  refine ⟨_, pg_sub po pi set_list hs, fun d v ρ S io F σ H Q st en rv h => ?_⟩
  refine ho ρ S io F σ H _ st en (RG.nox h fun d1 S1 io1 F1 H1 v1 e1 n1 s1 r1 h1 => ?_)
  refine hi ρ S1 io1 F1 σ H1 _ s1 (en.nxt n1) (RG.nox h1 fun d2 S2 io2 F2 H2 v2 e2 n2 s2 r2 h2 => ?_)
  obtain ⟨p, xs, k, j, e3, e4, hp, hj, S3, F3, n3, s3, h3⟩ := s2.setV (r1.mono n2.han n2.fr) r2 (rv.mono (n1.trans n2).han (n1.trans n2).fr) h2
  exact ⟨p, xs, k, j, e3, e4, hp, hj, h3 io2 F3 _ σ Nxt.refl s3 ⟨en.nxt ((n1.trans n2).trans n3), agree_refl⟩⟩
end
end Mir

namespace Mir
open PySem L2
structure RoomG (k : Nat) (A : Around) : Prop where
  r : Room k A
  gd : A.guards = some []
theorem RoomG.mono {j k : Nat} {A : Around} (r : RoomG k A) (h : j ≤ k) : RoomG j A := ⟨r.r.mono h, r.gd⟩
theorem RoomG.deeper {k : Nat} {A : Around} (r : RoomG (k + 1) A) (env : PySem.Env) : RoomG k (A.deeper env) := ⟨r.r.deeper env, r.gd⟩
theorem RoomG.in1 {k : Nat} {A : Around} (r : RoomG (k + 1) A) : RoomG k A.in1 := ⟨r.r.in1, r.gd⟩
theorem make_guards {A : Around} {C : Addr} {us : List Value} {kw : List (Str × Value)} (h : A.guards = some []) : (A.under (.builtin "type.__call__" ⟨.ref C :: us, kw⟩)).guards = some [] := by
  have e : (Code.builtin "type.__call__" ⟨.ref C :: us, kw⟩).guards = [] := by
    unfold Code.guards
    rw [if_neg]
    show ¬ (guardIds.contains "type.__call__" = true)
    decide +kernel
  show pushGuards (Code.builtin "type.__call__" ⟨.ref C :: us, kw⟩).guards A.guards = some []
  rw [e, h]
  rfl
theorem RoomG.make {k : Nat} {A : Around} (r : RoomG (k + 1) A) (C : Addr) (us : List Value) (kw : List (Str × Value)) : RoomG k (A.under (.builtin "type.__call__" ⟨.ref C :: us, kw⟩)) := ⟨r.r.make C us kw, make_guards r.gd⟩
structure FnG (P : Program) (w : World) (K : PySem.W.Frag) (mg : Str → Option Value) (base : Heap) (k : Nat) (f : Addr) (fd : FuncData) (ps : List Str) (sp : Sp) : Prop where
  len : ∀ vs H Q E, sp vs H Q E → vs.length = ps.length
  run : ∀ (A : Around) (outer : List PySem.Env) (s : Shared) (H : Hp) (args : Args) (us : List Value) (vs : List V) (Q : VK) (E : XK), RoomG k A → Env0 P w K mg base A outer s H → BindsTo s fd args (ps.zip us) → Vals vs us → sp vs H Q E →
    codeAny (model P w) A (.call (.ref f) args) (CR (L2.CX P w) outer P w H s Q E) s
theorem FnG.mono {P : Program} {w : World} {K : PySem.W.Frag} {mg : Str → Option Value} {base : Heap} {j k : Nat} {f : Addr} {fd : FuncData} {ps : List Str} {sp : Sp} (F : FnG P w K mg base j f fd ps sp) (h : j ≤ k) : FnG P w K mg base k f fd ps sp :=
  ⟨F.len, fun A outer s H args us vs Q E hr => F.run A outer s H args us vs Q E (hr.mono h)⟩
theorem fnG_ofC {P : Program} {w : World} {K : PySem.W.Frag} {mg : Str → Option Value} {base : Heap} {x qual : Str} {params : Arguments} {body : List Stmt} {scope : Scope} {dvs : List V} {kws : List (Str × V)} {f : Addr} {fd : FuncData} {N ps : List Str} {k : Nat} {sp : Sp}
    (F : FunD K x qual params body scope dvs kws f fd) (S : FnScope N ps scope) (len : ∀ vs H Q E, sp vs H Q E → vs.length = ps.length)
    (hbody : ∀ (cdv : Value) (A : Around) (outer : List PySem.Env) (s : Shared) (H : Hp) (vs : List V) (Q : VK) (E : XK), fd.code = cdv → RoomG k (A.deeper (PyProof.Rows.envOfC qual scope s.heap.objs.size f cdv)) → sp vs H Q E →
      ∃ t, PSs (cxOf (L2.CX P w) P w K mg base N qual scope f cdv A outer s H E) body t ∧ t { nx := fun _ H' => Q .non H', rt := Q } (L2.start N vs) H) : FnG P w K mg base (k + 1) f fd ps sp := by
  obtain ⟨oc, od, dV, kV, doc, pm, an, cdv, ct, osl, rfl, lk, hcd, _, _⟩ := F.ex
  refine ⟨len, fun A outer s H args us vs Q E hr e0 hb r hsp => ?_⟩
  have KX : K.In s.heap := e0.mod.kin.keeps fun b o e => (e0.bs b o e).1
  have lim : s.heap.NoLimit := e0.mod.nolimit.keeps fun b o e => (e0.bs b o e).1
  refine codeAny_call_function hr.r.depth (KX _ _ lk) rfl S.co S.gen rfl (PySem.W.codeRec_of KX hcd) (hb _ _ _ _ ?_)
  refine wpAny_newFunctionEnv_cells S.kind (fun y hy => ?_) fun env he s1 x => ?_
  · rcases S.par y.1 (List.of_mem_zip hy).1 with q | q
    · exact .inl q
    · exact .inr ⟨q, PySem.W.cellsFrom_some _ _ _ (.inl q)⟩
  · subst he
    obtain ⟨t, ht, hq⟩ := hbody cdv A outer s H vs Q E rfl (hr.deeper _) hsp
    refine ⟨lim.keeps x.toInCall.keep, codeAny_func ?_⟩
    refine wpAny_mono (ht.run [] s1 (L2.start N vs) H _ (inv_start S hr.r.hd e0 (len _ _ _ _ hsp) r x) hq) (fun fl s' hs => ?_) fun e s' hs => hs
    cases fl with
    | ret u =>
      obtain ⟨v, σ', H', J, rv, q⟩ := hs
      exact ⟨v, H', J.os, J.bare, J.base, J.hok, rv, q⟩
    | next =>
      obtain ⟨σ', H', J, q⟩ := hs
      exact ⟨.non, H', J.os, J.bare, J.base, J.hok, rfl, q⟩
    | brk =>
      obtain ⟨_, _, _, q⟩ := hs
      exact q.elim
    | cont =>
      obtain ⟨_, _, _, q⟩ := hs
      exact q.elim
theorem fnG_of {P : Program} {w : World} {K : PySem.W.Frag} {mg : Str → Option Value} {base : Heap} {x qual : Str} {params : Arguments} {body : List Stmt} {scope : Scope} {dvs : List V} {kws : List (Str × V)} {f : Addr} {fd : FuncData} {N ps : List Str} {k : Nat} {sp : Sp}
    (F : FunD K x qual params body scope dvs kws f fd) (S : FnScope N ps scope) (len : ∀ vs H Q E, sp vs H Q E → vs.length = ps.length)
    (hbody : ∀ (cdv : Value) (A : Around) (outer : List PySem.Env) (s : Shared) (H : Hp) (vs : List V) (Q : VK) (E : XK), RoomG k (A.deeper (PyProof.Rows.envOfC qual scope s.heap.objs.size f cdv)) → sp vs H Q E →
      ∃ t, PSs (cxOf (L2.CX P w) P w K mg base N qual scope f cdv A outer s H E) body t ∧ t { nx := fun _ H' => Q .non H', rt := Q } (L2.start N vs) H) : FnG P w K mg base (k + 1) f fd ps sp := fnG_ofC F S len fun cdv A outer s H vs Q E _ => hbody cdv A outer s H vs Q E
theorem run_fnG {X : Cx} {k : Nat} {f : Addr} {fd : FuncData} {ps : List Str} {sp : Sp} {E : St → XK} {pins : List (Addr × Obj)} {σ : St} {H : Hp} {s : Shared} {Q : VK} {us : List Value} {vs : List V} (F : FnG X.prog X.w X.K X.mg X.base k f fd ps sp) (hr : RoomG k X.A) (hb : Binds X.K fd ps [])
    (hx : PassesAt (L2.CX X.prog X.w) X σ (E σ)) (I : Inv X pins σ H s) (r : Vals vs us) (h : sp vs H Q (E σ)) : wpAny (model X.prog X.w) X.A (call (.ref f) us) (EP X pins σ Q) X.xe s := by
  have hl : us.length = ps.length := by rw [← r.length]; exact F.len _ _ _ _ h
  have b := hb s us I.kIn (by rw [List.append_nil]; exact hl)
  rw [List.append_nil] at b
  refine wpAny_call (codeAny_mono (F.run X.A X.stack s H ⟨us, []⟩ us vs Q (E σ) hr I.env0 b r h) fun r s' hq => ?_)
  match r, hq with
  | .error e, hq => exact hx pins H s e s' I hq
  | .ok (.ret u), hq => exact I.after hq
  | .ok .next, hq => exact hq.elim
  | .ok .brk, hq => exact hq.elim
  | .ok .cont, hq => exact hq.elim
abbrev MF := List Vl → Sto → Res Vl
def spM (K : PySem.W.Frag) (m : MF) : Sp := fun vs H Q E => ∃ io F S ds, Sta K io F S H ∧ RepVs K io F ds vs ∧ RG K (RepA K) (m ds S) io F H Q E
def retV (n : Nat) (d : Vl) (S : Sto) : Res Vl := match d with
  | .p x => .ok (.p x) (S.take n)
  | .c j => if j < n then .ok (.c j) (S.take n) else (frz (.c j) S).bind fun y S2 => .ok (.p y) (S2.take n)
def endF (n : Nat) (r : RF) : Res Vl := match r with
  | .ok (.rt d) S => retV n d S
  | .ok (.nx _) S => .ok (.p .non) (S.take n)
  | .ok (.xc _ c x) S => .exc c x (S.take n)
  | _ => .bad
def mkF (n k : Nat) (body : MS) : MF := fun ds S => if ds.length = n then endF S.length (body (ds.map some ++ List.replicate k none) S) else .bad
def endK (n : Nat) (r : RF) : Res Vl := match r with
  | .ok (.rt (.c j)) S => if j < n then .bad else (match S[j]? with
    | some (.lst xs) => .ok (.c n) (S.take n ++ [.lst xs])
    | _ => .bad)
  | .ok (.xc _ c x) S => .exc c x (S.take n)
  | _ => .bad
def mkK (n k : Nat) (body : MS) : MF := fun ds S => if ds.length = n then endK S.length (body (ds.map some ++ List.replicate k none) S) else .bad
section
variable {K : PySem.W.Frag} {io io1 : Io} {F F1 H H1 : Hp} {S S1 : Sto} {Q : VK} {E : XK}
theorem ret_ok (hn : io.length = S.length) (nx : Nxt io F H io1 F1 H1) (st : Sta K io1 F1 S1 H1) {d : Vl} {v : V} (r : RepV K io1 F1 d v) (h : RG K (RepA K) (retV S.length d S1) io F H Q E) : Q v H1 := by
  cases d with
  | p x => exact h (io1.take S.length) F1 H1 v (nx.cut hn) (st.cut _) r
  | c j =>
    unfold retV at h
    dsimp only at h
    by_cases hj : j < S.length
    · rw [if_pos hj] at h
      exact h (io1.take S.length) F1 H1 v (nx.cut hn) (st.cut _) (r.cut fun i e => by cases e; exact hj)
    · rw [if_neg hj] at h
      obtain ⟨y, S2, F2, n2, s2, rp, hz, h2⟩ := st.frz r (RG.step nx h)
      rw [hz] at h
      exact h (io1.take S.length) F2 H1 v ((nx.trans n2).cut hn) (s2.cut _) rp
theorem keep_ok (hn : io.length = S.length) (nx : Nxt io F H io1 F1 H1) (st : Sta K io1 F1 S1 H1) {d : Vl} {v : V} (r : RepV K io1 F1 d v) (h : RG K (RepA K) (endK S.length (.ok (.rt d) S1)) io F H Q E) : Q v H1 := by
  cases d with
  | p x => exact h.elim
  | c j =>
    unfold endK at h
    dsimp only at h
    by_cases hj : j < S.length
    · rw [if_pos hj] at h; exact h.elim
    · rw [if_neg hj] at h
      split at h
      · rename_i xs hk
        obtain ⟨a, ha, rfl⟩ := r
        obtain ⟨b, vs, hb, hF, hH, hr⟩ := st.cel j _ hk
        rw [ha] at hb; cases hb
        have s2 := st.cut S.length
        have hl : (io1.take S.length).length = S.length := by
          rw [List.length_take]
          have : j < io1.length := (List.getElem?_eq_some_iff.mp ha).1
          omega
        have hl2 : (S1.take S.length).length = S.length := by rw [← s2.len]; exact hl
        have hp : ∀ k : Nat, (io1.take S.length)[k]? ≠ some (some a) := fun k e => by
          rw [List.getElem?_take] at e
          split at e
          · have := st.inj k j a e ha
            omega
          · cases e
        have hi : (io1.take S.length ++ [some a])[S.length]? = some (some a) := by
          rw [List.getElem?_append_right (by rw [hl]; exact Nat.le_refl _), hl]
          simp
        obtain ⟨s3, n3⟩ := s2.lay hp hF hH (c := .lst xs) ⟨a, vs, by rw [hl2]; exact hi, hF, hH, hr⟩
        refine h (io1.take S.length ++ [some a]) F1 H1 (.ref a) ?_ s3 ⟨a, hi, rfl⟩
        have nc := nx.cut hn
        refine ⟨fun k x e => n3 k x (nc.han k x e), nc.fr, nc.out, fun k x e => ?_, nc.stay, nc.nf⟩
        rw [List.getElem?_append] at e
        split at e
        · exact nc.new k x e
        · rename_i hk2
          have : k - (io1.take S.length).length = 0 := by
            have := (List.getElem?_eq_some_iff.mp e).1
            simp only [List.length_cons, List.length_nil] at this
            omega
          rw [this] at e
          have e : a = x := by simpa using e
          subst e
          rcases nx.new j a ha with z | z
          · have := (List.getElem?_eq_some_iff.mp z).1
            rw [hn] at this
            exact absurd this hj
          · exact .inr z
      · exact h.elim
end
section
variable {P : Program} {w : World} {K : PySem.W.Frag} {mg : Str → Option Value} {base : Heap} {x qual : Str} {params : Arguments} {body : List Stmt} {scope : Scope} {dvs : List V} {kws : List (Str × V)} {f : Addr} {fd : FuncData} {N ps : List Str} {k nl : Nat} {m : MS}
theorem spM_len {en : Nat → RF → Res Vl} {n k : Nat} {m : MS} {vs : List V} {H : Hp} {Q : VK} {E : XK} (h : spM K (fun ds S => if ds.length = n then en S.length (m (ds.map some ++ List.replicate k none) S) else .bad) vs H Q E) : vs.length = n := by
  obtain ⟨io, F, S, ds, st, r, h⟩ := h
  by_cases q : ds.length = n
  · rw [r.length, q]
  · dsimp only at h
    rw [if_neg q] at h
    exact h.elim
theorem fn_okC (F : FunD K x qual params body scope dvs kws f fd) (sc : FnScope N ps scope) (hN : N.length = ps.length + nl)
    (hb : ∀ (cdv : Value) (A : Around) (outer : List PySem.Env) (s : Shared) (H : Hp) (E : XK), fd.code = cdv → RoomG k (A.deeper (PyProof.Rows.envOfC qual scope s.heap.objs.size f cdv)) → OSs (cxOf (L2.CX P w) P w K mg base N qual scope f cdv A outer s H E) (fun c d _ H' => E c d H') body m) :
    FnG P w K mg base (k + 1) f fd ps (spM K (mkF ps.length nl m)) := by
  refine fnG_ofC F sc (fun vs H Q E h => spM_len h) fun cdv A outer s H vs Q E hcd hr h => ?_
  obtain ⟨t, pt, ht⟩ := hb cdv A outer s H E hcd hr
  refine ⟨t, pt, ?_⟩
  have hl := spM_len h
  obtain ⟨io, FF, S, ds, st, r, h⟩ := h
  have hd : ds.length = ps.length := by rw [← r.length]; exact hl
  unfold mkF at h
  rw [if_pos hd] at h
  have e0 := Env.start (K := K) (io := io) (F := FF) nl r
  have hst : L2.start N vs = vs.map some ++ List.replicate nl none := by
    unfold L2.start
    rw [hN, hl]
    congr 2
    omega
  rw [hst]
  refine ht _ S io FF _ H _ st e0 ?_
  show RS K (m (ds.map some ++ List.replicate nl none) S) io FF H { nx := fun _ H' => Q .non H', rt := Q } (fun c d _ H' => E c d H')
  cases q : m (ds.map some ++ List.replicate nl none) S with
  | bad => rw [q] at h; exact h.elim
  | ok fl S1 =>
    rw [q] at h
    cases fl with
    | nx ρ => exact fun io1 F1 H1 σ1 nx s1 en1 => h (io1.take S.length) F1 H1 .non (nx.cut st.len) (s1.cut _) rfl
    | rt d => exact fun io1 F1 H1 v nx s1 r1 => ret_ok st.len nx s1 r1 h
    | bk ρ => exact h.elim
    | ct ρ => exact h.elim
    | xc ρ c x => exact fun io1 F1 H1 d σ1 nx s1 en1 xr => h (io1.take S.length) F1 H1 d (nx.cut st.len) (s1.cut _) xr
theorem fn_ok (F : FunD K x qual params body scope dvs kws f fd) (sc : FnScope N ps scope) (hN : N.length = ps.length + nl)
    (hb : ∀ (cdv : Value) (A : Around) (outer : List PySem.Env) (s : Shared) (H : Hp) (E : XK), RoomG k (A.deeper (PyProof.Rows.envOfC qual scope s.heap.objs.size f cdv)) → OSs (cxOf (L2.CX P w) P w K mg base N qual scope f cdv A outer s H E) (fun c d _ H' => E c d H') body m) :
    FnG P w K mg base (k + 1) f fd ps (spM K (mkF ps.length nl m)) := fn_okC F sc hN fun cdv A outer s H E _ => hb cdv A outer s H E
theorem fn_okK (F : FunD K x qual params body scope dvs kws f fd) (sc : FnScope N ps scope) (hN : N.length = ps.length + nl)
    (hb : ∀ (cdv : Value) (A : Around) (outer : List PySem.Env) (s : Shared) (H : Hp) (E : XK), RoomG k (A.deeper (PyProof.Rows.envOfC qual scope s.heap.objs.size f cdv)) → OSs (cxOf (L2.CX P w) P w K mg base N qual scope f cdv A outer s H E) (fun c d _ H' => E c d H') body m) :
    FnG P w K mg base (k + 1) f fd ps (spM K (mkK ps.length nl m)) := by
  refine fnG_of F sc (fun vs H Q E h => spM_len h) fun cdv A outer s H vs Q E hr h => ?_
  obtain ⟨t, pt, ht⟩ := hb cdv A outer s H E hr
  refine ⟨t, pt, ?_⟩
  have hl := spM_len h
  obtain ⟨io, FF, S, ds, st, r, h⟩ := h
  have hd : ds.length = ps.length := by rw [← r.length]; exact hl
  unfold mkK at h
  rw [if_pos hd] at h
  have e0 := Env.start (K := K) (io := io) (F := FF) nl r
  have hst : L2.start N vs = vs.map some ++ List.replicate nl none := by
    unfold L2.start
    rw [hN, hl]
    congr 2
    omega
  rw [hst]
  refine ht _ S io FF _ H _ st e0 ?_
  show RS K (m (ds.map some ++ List.replicate nl none) S) io FF H { nx := fun _ H' => Q .non H', rt := Q } (fun c d _ H' => E c d H')
  cases q : m (ds.map some ++ List.replicate nl none) S with
  | bad => rw [q] at h; exact h.elim
  | ok fl S1 =>
    rw [q] at h
    cases fl with
    | nx ρ => exact h.elim
    | rt d => exact fun io1 F1 H1 v nx s1 r1 => keep_ok st.len nx s1 r1 h
    | bk ρ => exact h.elim
    | ct ρ => exact h.elim
    | xc ρ c x => exact fun io1 F1 H1 d σ1 nx s1 en1 xr => h (io1.take S.length) F1 H1 d (nx.cut st.len) (s1.cut _) xr
end
def HasPar (fd : FuncData) (params : Arguments) : Prop := ∃ (x qual : Str) (body : List Stmt) (scope : Scope) (kV doc pm : Value) (an : Option Addr) (cdv ct : Value), fd = PySem.W.fnOf x qual params body scope .none kV doc pm an cdv ct
def fdAt (K : PySem.W.Frag) (a : Addr) : Option FuncData := match K.lookup a with
  | some ⟨_, _, .func fd, _⟩ => some fd
  | _ => none
structure GF (P : Program) (w : World) (K : PySem.W.Frag) (mg : Str → Option Value) (base : Heap) (x : Str) (params : Arguments) (ps : List Str) (k : Nat) (m : MF) : Prop where
  gl : mg x = some (.ref (He.ga K x))
  kp : PySem.W.keepIn K (.ref (He.ga K x)) = true
  fn : ∃ fd, FnG P w K mg base k (He.ga K x) fd ps (spM K m) ∧ Binds K fd ps [] ∧ HasPar fd params ∧ fdAt K (He.ga K x) = some fd
theorem FunD.hasPar {K : PySem.W.Frag} {x qual : Str} {params : Arguments} {body : List Stmt} {scope : Scope} {kws : List (Str × V)} {f : Addr} {fd : FuncData} (F : FunD K x qual params body scope [] kws f fd) : HasPar fd params := by
  obtain ⟨oc, od, dV, kV, doc, pm, an, cdv, ct, osl, e, _, _, hd, _⟩ := F.ex
  rcases hd with ⟨_, rfl⟩ | ⟨z, _⟩
  · exact ⟨x, qual, body, scope, kV, doc, pm, an, cdv, ct, e⟩
  · exact absurd rfl z
theorem FunD.at_ {K : PySem.W.Frag} {x qual : Str} {params : Arguments} {body : List Stmt} {scope : Scope} {dvs : List V} {kws : List (Str × V)} {f : Addr} {fd : FuncData} (F : FunD K x qual params body scope dvs kws f fd) : fdAt K f = some fd := by
  obtain ⟨oc, od, dV, kV, doc, pm, an, cdv, ct, osl, e, lk, _⟩ := F.ex
  unfold fdAt
  rw [lk]
theorem takes0 {X : Cx} : Takes X W0 := fun u s' ⟨_, _, _, _, _, _, _, _, _, _, _, _, _, _, _, _, h⟩ => h.elim
def eFn (m : MF) (a : MA) : ME := fun ρ S => (a ρ S).bind m
section
variable {X : Cx} {W : WX} {e o : Expr} {es : List Expr} {mas : MA} {mo : ME} {x : Str} {p pos apos : Pos} {params : Arguments} {ps : List Str} {k j : Nat} {m : MF}
theorem oe_fn (G : GF X.prog X.w X.K X.mg X.base x params ps k m) (hr : RoomG j X.A) (hk : k ≤ j) (tk : Takes X W) (ha : OA X W (e :: es) mas) (hg : Gl X x := by rfl)
    (hdb : (x == ("__debug__" : Str)) = false := by decide) (he : starEach (e :: es) X.env = (false, eval e X.env) :: starEach es X.env := by rfl) (hpl : (backTo pos (starEach es X.env)).any (·.1) = false := by rfl) :
    OE X W (.Call (.Name x p) (e :: es) [] pos) (eFn m mas) := by
  obtain ⟨fd, F, hb, _⟩ := G.fn
  obtain ⟨t, q, ha⟩ := ha
  refine ⟨fun σ H Q => t σ H fun vs H1 => spM X.K m vs H1 Q (WE W σ), ⟨fun pins s σ H Q I h => ?_⟩, fun ρ S io F σ H Q st en h => ?_⟩
  · refine wpAny_Call_Name_kw (ld_glob I hg G.gl ?_ hdb)
    refine PySem.W.callWith_K (h₀ := X.base) I.ok.mod.kin G.kp (thn (q.run pos pins s σ H _ I h) fun us s1 ⟨vs, H1, I1, r, qq⟩ => ⟨I1.kIn, ?_⟩) he hpl
    exact run_fnG (E := WE W) F (hr.mono hk) hb (passAt tk σ) I1 r qq
  refine ha ρ S io F σ H _ st en (RG.bind h fun ds S1 io1 F1 H1 vs e1 n1 s1 r1 h1 => ?_)
  exact ⟨io1, F1, S1, ds, s1, r1, h1⟩
end
def permL {A : Type} (d : A) (pm : List Nat) (xs : List A) : List A := pm.map fun i => xs.getD i d
section
variable {X : Cx} {W : WX} {e o : Expr} {es : List Expr} {mas mks : MA} {me mo : ME} {x : Str} {p pos apos kpos : Pos} {params : Arguments} {ps ks : List Str} {k j n : Nat} {m : MF} {kws : List Keyword} {nm : Option Str} {pm : List Nat}
def eFnK (m : MF) (n : Nat) (kl : Nat) (pm : List Nat) (a b : MA) : ME := fun ρ S => (a ρ S).bind fun ds S1 => (b ρ S1).bind fun zs S2 => if ds.length = n ∧ zs.length = kl then m (permL (.p .non) pm (ds ++ zs)) S2 else .bad
end
end Mir

namespace Mir
open PySem L2
def fldOf {A : Type} (f : Str) : List Str → List A → Option A
  | n :: ns, x :: xs => if f = n then some x else fldOf f ns xs
  | _, _ => none
def putN (f : Str) : List Str → List Str
  | [] => [f]
  | n :: ns => if n = f then n :: ns else n :: putN f ns
def putX {A : Type} (f : Str) (a : A) : List Str → List A → List A
  | n :: ns, x :: xs => if n = f then a :: xs else x :: putX f a ns xs
  | _, _ => [a]
section
variable {K : PySem.W.Frag} {io : Io} {F : Hp} {S : Sto} {H : Hp}
theorem lookup_cons' {B : Type} {f k : Str} {v : B} {r : List (Str × B)} : ((k, v) :: r).lookup f = if f = k then some v else r.lookup f := by
  show (match f == k with | true => some v | false => r.lookup f) = _
  by_cases h : f = k
  · subst h; rw [if_pos rfl, beq_self_eq_true]
  · rw [if_neg h, beq_eq_false_iff_ne.mpr h]
theorem fld_repL : ∀ {ns : List Str} {xs : List P} {gs : List (Str × V)} {f : Str} {x : P}, gs.map (·.1) = ns → RepL K F xs (gs.map (·.2)) → fldOf f ns xs = some x → ∃ v, gs.lookup f = some v ∧ Rep K F x v
  | [], xs, gs, f, x, h1, h2, e => by cases xs <;> cases e
  | n :: ns, [], gs, f, x, h1, h2, e => by cases e
  | n :: ns, y :: xs, [], f, x, h1, h2, e => by cases h1
  | n :: ns, y :: xs, (k, u) :: gs, f, x, h1, ⟨v, r, e1, r1, r2⟩, e => by
    cases h1
    cases e1
    have e : (if f = k then some y else fldOf f (gs.map (·.1)) xs) = some x := e
    rw [lookup_cons']
    by_cases q : f = k
    · rw [if_pos q] at e ⊢
      cases e
      exact ⟨_, rfl, r1⟩
    · rw [if_neg q] at e ⊢
      exact fld_repL rfl r2 e
theorem fld_repV : ∀ {ns : List Str} {xs : List Vl} {gs : List (Str × V)} {f : Str} {x : Vl}, gs.map (·.1) = ns → RepVs K io F xs (gs.map (·.2)) → fldOf f ns xs = some x → ∃ v, gs.lookup f = some v ∧ RepV K io F x v
  | [], xs, gs, f, x, h1, h2, e => by cases xs <;> cases e
  | n :: ns, [], gs, f, x, h1, h2, e => by cases e
  | n :: ns, y :: xs, [], f, x, h1, h2, e => by cases h1
  | n :: ns, y :: xs, (k, u) :: gs, f, x, h1, ⟨v, r, e1, r1, r2⟩, e => by
    cases h1
    cases e1
    have e : (if f = k then some y else fldOf f (gs.map (·.1)) xs) = some x := e
    rw [lookup_cons']
    by_cases q : f = k
    · rw [if_pos q] at e ⊢
      cases e
      exact ⟨_, rfl, r1⟩
    · rw [if_neg q] at e ⊢
      exact fld_repV rfl r2 e
theorem fld_none : ∀ {ns : List Str} {gs : List (Str × V)} {f : Str}, gs.map (·.1) = ns → f ∉ ns → gs.lookup f = none
  | [], [], f, h1, e => rfl
  | [], _ :: _, f, h1, e => by cases h1
  | n :: ns, [], f, h1, e => by cases h1
  | n :: ns, (k, u) :: gs, f, h1, e => by
    cases h1
    rw [lookup_cons', if_neg (fun z => e (by rw [z]; exact List.mem_cons_self))]
    exact fld_none rfl fun z => e (List.mem_cons_of_mem _ z)
theorem put_names : ∀ (gs : List (Str × V)) (f : Str) (v : V), (putF f v gs).map (·.1) = putN f (gs.map (·.1))
  | [], f, v => rfl
  | (k, u) :: gs, f, v => by
    show (if k = f then (k, v) :: gs else (k, u) :: putF f v gs).map (·.1) = if k = f then k :: gs.map (·.1) else k :: putN f (gs.map (·.1))
    by_cases q : k = f
    · rw [if_pos q, if_pos q]; rfl
    · rw [if_neg q, if_neg q]
      show k :: (putF f v gs).map (·.1) = _
      rw [put_names gs f v]
theorem put_vals {d : Vl} {v : V} (hd : RepV K io F d v) {f : Str} : ∀ {gs : List (Str × V)} {xs : List Vl}, RepVs K io F xs (gs.map (·.2)) → RepVs K io F (putX f d (gs.map (·.1)) xs) ((putF f v gs).map (·.2))
  | [], xs, h => by
    cases xs with
    | nil => exact ⟨v, [], rfl, hd, rfl⟩
    | cons x xs => obtain ⟨_, _, e, _⟩ := h; cases e
  | (k, u) :: gs, [], h => by cases h
  | (k, u) :: gs, x :: xs, ⟨w, r, e1, r1, r2⟩ => by
    cases e1
    show RepVs K io F (if k = f then d :: xs else x :: putX f d (gs.map (·.1)) xs) ((if k = f then (k, v) :: gs else (k, u) :: putF f v gs).map (·.2))
    by_cases q : k = f
    · rw [if_pos q, if_pos q]; exact ⟨v, _, rfl, hd, r2⟩
    · rw [if_neg q, if_neg q]; exact ⟨u, _, rfl, r1, put_vals hd r2⟩
theorem put_mem {d : Vl} {f : Str} {j : Nat} : ∀ {ns : List Str} {xs : List Vl}, Vl.c j ∈ putX f d ns xs → Vl.c j ∈ xs ∨ d = .c j
  | [], xs, h => by
    have h : Vl.c j ∈ [d] := by cases xs <;> exact h
    exact .inr (List.mem_singleton.mp h).symm
  | n :: ns, [], h => .inr (List.mem_singleton.mp h).symm
  | n :: ns, x :: xs, h => by
    have h : Vl.c j ∈ if n = f then d :: xs else x :: putX f d ns xs := h
    by_cases q : n = f
    · rw [if_pos q] at h
      rcases List.mem_cons.mp h with z | z
      · exact .inr z.symm
      · exact .inl (List.mem_cons_of_mem _ z)
    · rw [if_neg q] at h
      rcases List.mem_cons.mp h with z | z
      · exact .inl (by rw [z]; exact List.mem_cons_self)
      · rcases put_mem z with y | y
        · exact .inl (List.mem_cons_of_mem _ y)
        · exact .inr y
end
def fldV (c f : Str) (d : Vl) (S : Sto) : Res Vl := match d with
  | .p (.obj c' ns xs) => if c' = c then (match fldOf f ns xs with
    | some x => .ok (.p x) S
    | none => .bad) else .bad
  | .c k => (match S[k]? with
    | some (.ins c' ns xs) => if c' = c then (match fldOf f ns xs with
      | some x => .ok x S
      | none => .bad) else .bad
    | _ => .bad)
  | _ => .bad
def eFld (c f : Str) (mo : ME) : ME := fun ρ S => (mo ρ S).bind fun d S1 => fldV c f (nv S1 d) S1
section
variable {X : Cx} {W : WX} {a b e o : Expr} {ma mb mo : ME} {pos apos : Pos} {c f : Str}
theorem oe_fld (hc : Cls X.K (He.ga X.K c)) (hn : NoAttr X.K (He.ga X.K c) f) (ho : OE X W o mo) (hb : attributeBase o f X.env (eval o X.env) = eval o X.env := by rfl) : OE X W (.Attribute o f pos) (eFld c f mo) := by
  obtain ⟨t, p, ho⟩ := ho
  refine ⟨_, pe_fld p hb, fun ρ S io F σ H Q st en h => ?_⟩
  refine ho ρ S io F σ H _ st en (RG.bind h fun d S1 io1 F1 H1 v e1 n1 s1 r1 h1 => ?_)
  replace r1 := s1.nv r1
  generalize nv S1 d = d at r1 h1
  cases d with
  | p x =>
    cases x with
    | obj c' ns xs =>
      replace h1 : RG X.K (RepA X.K) (if c' = c then (match fldOf f ns xs with
        | some x => .ok (.p x) S1
        | none => .bad) else .bad) io1 F1 H1 Q (fun c d H' => W c d σ H') := h1
      by_cases q : c' = c
      · rw [if_pos q] at h1
        subst q
        cases hx : fldOf f ns xs with
        | none => rw [hx] at h1; exact h1.elim
        | some x =>
          rw [hx] at h1
          obtain ⟨a, dx, gs, rfl, ha, hg, hr⟩ := r1
          obtain ⟨v, hv, rv⟩ := fld_repL hg hr hx
          exact ⟨a, _, dx, gs, v, rfl, s1.sub _ _ ha, hc, hn, hv, h1 io1 F1 H1 v Nxt.refl s1 rv⟩
      · rw [if_neg q] at h1; exact h1.elim
    | _ => exact h1.elim
  | c k =>
    replace h1 : RG X.K (RepA X.K) (match S1[k]? with
      | some (.ins c' ns xs) => if c' = c then (match fldOf f ns xs with
        | some x => .ok x S1
        | none => .bad) else .bad
      | _ => .bad) io1 F1 H1 Q (fun c d H' => W c d σ H') := h1
    cases hk : S1[k]? with
    | none => rw [hk] at h1; exact h1.elim
    | some cc =>
      rw [hk] at h1
      cases cc with
      | ins c' ns xs =>
        dsimp only at h1
        by_cases q : c' = c
        · rw [if_pos q] at h1
          subst q
          cases hx : fldOf f ns xs with
          | none => rw [hx] at h1; exact h1.elim
          | some x =>
            rw [hx] at h1
            obtain ⟨a, ha, rfl⟩ := r1
            obtain ⟨b, dx, gs, hb, hF, hH, hg, hr, _⟩ := s1.cel k _ hk
            rw [ha] at hb; cases hb
            obtain ⟨v, hv, rv⟩ := fld_repV hg hr hx
            exact ⟨a, _, dx, gs, v, rfl, hH, hc, hn, hv, h1 io1 F1 H1 v Nxt.refl s1 rv⟩
        · rw [if_neg q] at h1; exact h1.elim
      | _ => exact h1.elim
def putC (c f : Str) (k : Nat) (d : Vl) (S : Sto) : Res Unit := match S[k]? with
  | some (.ins c' ns xs) => if c' = c ∧ ns.length < 1000 then .ok () (S.set k (.ins c' (putN f ns) (putX f d ns xs))) else .bad
  | _ => .bad
def fSet (c f : Str) (o v : Vl) (S : Sto) : Res Unit := match o with
  | .c k => (match v with
    | .p x => putC c f k (.p x) S
    | .c j => if j < k then putC c f k (.c j) S else (frz (.c j) S).bind fun x S1 => putC c f k (.p x) S1)
  | _ => .bad
def gFldM (c f : Str) (o : ME) : MG := fun d ρ S => (o ρ S).nox.bind fun a S1 => (fSet c f a d S1).bind fun _ S2 => .ok ρ S2
theorem Sta.putC {K : PySem.W.Frag} {io : Io} {F : Hp} {S : Sto} {H : Hp} {k : Nat} {a : Addr} {d : Vl} {v : V} {C D : Type} {R' : Io → Hp → C → D → Prop} {g : Unit → Sto → Res C} {Q : D → Hp → Prop} {E : XK} (st : Sta K io F S H) (ha : io[k]? = some (some a)) (rv : RepV K io F d v) (hj : ∀ j, d = .c j → j < k)
    (h : RG K R' ((Mir.putC c f k d S).bind g) io F H Q E) : ∃ dx fs, H a = some (.ins (He.ga K c) dx fs) ∧ fs.length < 1000 ∧ ∃ S', Nxt io F H io F (upd H a (.ins (He.ga K c) dx (putF f v fs))) ∧ Sta K io F S' (upd H a (.ins (He.ga K c) dx (putF f v fs))) ∧ RG K R' (g () S') io F (upd H a (.ins (He.ga K c) dx (putF f v fs))) Q E := by
  unfold Mir.putC at h
  cases hk : S[k]? with
  | none => rw [hk] at h; exact h.elim
  | some cc =>
    rw [hk] at h
    cases cc with
    | ins c' ns xs =>
      dsimp only at h
      by_cases q : c' = c ∧ ns.length < 1000
      · rw [if_pos q] at h
        obtain ⟨rfl, hl⟩ := q
        obtain ⟨b, dx, gs, hb, hF, hH, hg, hr, hlt⟩ := st.cel k _ hk
        rw [ha] at hb; cases hb
        subst hg
        rw [List.length_map] at hl
        obtain ⟨s2, n2⟩ := st.write (o := .ins (He.ga K c') dx (putF f v gs)) (c := .ins c' (putN f (gs.map (·.1))) (putX f d (gs.map (·.1)) xs)) ha hF ⟨a, dx, putF f v gs, ha, hF, upd_same, put_names gs f v, put_vals rv hr, fun j hm => by
          rcases put_mem hm with z | z
          · exact hlt j z
          · exact hj j z⟩
        exact ⟨dx, gs, hH, hl, _, n2, s2, RG.step n2 h⟩
      · rw [if_neg q] at h; exact h.elim
    | _ => exact h.elim
theorem Sta.fSet {K : PySem.W.Frag} {io : Io} {F : Hp} {S : Sto} {H : Hp} {o d : Vl} {vo v : V} {C D : Type} {R' : Io → Hp → C → D → Prop} {g : Unit → Sto → Res C} {Q : D → Hp → Prop} {E : XK} (st : Sta K io F S H) (ro : RepV K io F o vo) (rv : RepV K io F d v)
    (h : RG K R' ((Mir.fSet c f o d S).bind g) io F H Q E) : ∃ a dx fs, vo = .ref a ∧ H a = some (.ins (He.ga K c) dx fs) ∧ fs.length < 1000 ∧ ∃ S' F', Nxt io F H io F' (upd H a (.ins (He.ga K c) dx (putF f v fs))) ∧ Sta K io F' S' (upd H a (.ins (He.ga K c) dx (putF f v fs))) ∧ RG K R' (g () S') io F' (upd H a (.ins (He.ga K c) dx (putF f v fs))) Q E := by
  cases o with
  | p x => exact h.elim
  | c k =>
    obtain ⟨a, ha, rfl⟩ := ro
    unfold Mir.fSet at h
    dsimp only at h
    cases d with
    | p x =>
      obtain ⟨dx, fs, h1, h2, S', n2, s2, h3⟩ := st.putC ha rv (fun j z => nomatch z) h
      exact ⟨a, dx, fs, rfl, h1, h2, S', F, n2, s2, h3⟩
    | c j =>
      dsimp only at h
      by_cases q : j < k
      · rw [if_pos q] at h
        obtain ⟨dx, fs, h1, h2, S', n2, s2, h3⟩ := st.putC ha rv (fun i z => by cases z; exact q) h
        exact ⟨a, dx, fs, rfl, h1, h2, S', F, n2, s2, h3⟩
      · rw [if_neg q] at h
        have e : ((Mir.frz (.c j) S).bind fun x S1 => Mir.putC c f k (.p x) S1).bind g = (Mir.frz (.c j) S).bind fun x S1 => (Mir.putC c f k (.p x) S1).bind g := by cases Mir.frz (.c j) S <;> rfl
        rw [e] at h
        obtain ⟨x, S1, F1, n1, s1, rp, hz, h1⟩ := st.frz rv h
        obtain ⟨dx, fs, h1, h2, S', n2, s2, h3⟩ := s1.putC (d := .p x) ha rp (fun j z => nomatch z) h1
        exact ⟨a, dx, fs, rfl, h1, h2, S', F1, n1.trans n2, s2, h3⟩
def gFldT (K : PySem.W.Frag) (to : TE) (f : Str) : TG := fun v σ H Q => to σ H fun x H1 => ∃ a C dx fs, x = .ref a ∧ H1 a = some (.ins C dx fs) ∧ Cls K C ∧ NoAttr K C f ∧ fs.length < 1000 ∧ Q σ (upd H1 a (.ins C dx (putF f v fs)))
theorem pg_fld {to : TE} (ho : PE X o to) (ha : ∀ v, assign (.Attribute o f pos) X.env v = (do
      let ov ← holding [v] (eval o X.env)
      standAt pos.atName
      holding [v, ov] (setAttr ov f v)
      release [v, ov] []) := by intro _; rfl) : PG X (.Attribute o f pos) (gFldT X.K to f) := by
  refine ⟨fun pins s σ H v u Q I r h => ?_⟩
  rw [ha]
  refine wpAny_bind (wpAny_holding (thn (ho.run pins s σ H _ I h) fun ov s1 ⟨x, H1, I1, r1, a, C, dx, fs, e1, e2, hc, hn, hl, q1⟩ => ?_))
  subst e1
  obtain rfl : ov = Value.ref a := r1
  refine wpAny_bind (wpAny_standAt (wpAny_bind (wpAny_holding (setattr_ok I1 e2 hc hn hl r fun s2 I2 => ?_))))
  exact wpAny_release ⟨σ, _, I2, q1⟩
theorem og_fld (hc : Cls X.K (He.ga X.K c)) (hn : NoAttr X.K (He.ga X.K c) f) (ho : OE X W0 o mo) (ha : ∀ v, assign (.Attribute o f pos) X.env v = (do
      let ov ← holding [v] (eval o X.env)
      standAt pos.atName
      holding [v, ov] (setAttr ov f v)
      release [v, ov] []) := by intro _; rfl) : OG X W0 (.Attribute o f pos) [] (gFldM c f mo) := by
  obtain ⟨to, po, ho⟩ := ho
  refine ⟨_, pg_fld po ha, fun d v ρ S io F σ H Q st en rv h => ?_⟩
  refine ho ρ S io F σ H _ st en (RG.nox h fun d1 S1 io1 F1 H1 v1 e1 n1 s1 r1 h1 => ?_)
  obtain ⟨a, dx, fs, e2, e3, hl, S2, F2, n2, s2, h2⟩ := s1.fSet r1 (rv.mono n1.han n1.fr) h1
  exact ⟨a, _, dx, fs, e2, e3, hc, hn, hl, h2 io1 F2 _ σ Nxt.refl s2 ⟨en.nxt (n1.trans n2), agree_refl⟩⟩
end
structure GC (P : Program) (w : World) (K : PySem.W.Frag) (mg : Str → Option Value) (base : Heap) (x : Str) (params : Arguments) (ps : List Str) (k : Nat) (m : MF) : Prop where
  gl : mg x = some (.ref (He.ga K x))
  mkr : Mk K (He.ga K x) (He.ma K (He.ga K x) "__init__")
  fn : ∃ fd, FnG P w K mg base k (He.ma K (He.ga K x) "__init__") fd ps (spM K m) ∧ Binds K fd ps [] ∧ HasPar fd params
def endO (kp : Bool) (n : Nat) (r : Res Vl) : Res Vl := match r with
  | .ok (.p .non) S => (match kp with
    | true => .ok (.c n) S
    | false => (frz (.c n) S).bind fun y S1 => .ok (.p y) (S1.take n))
  | .exc c x S => .exc c x (S.take n)
  | _ => .bad
def mkO (kp : Bool) (c : Str) (m : MF) (ds : List Vl) (S : Sto) : Res Vl := endO kp S.length (m (.c S.length :: ds) (S ++ [.ins c [] []]))
section
variable {K : PySem.W.Frag} {io : Io} {F : Hp} {S : Sto} {H : Hp}
theorem Nxt.side {p : Addr} {o : HO} (hp : H p = none) : Nxt io F H io F (upd H p o) := by
  refine ⟨fun _ _ z => z, fun _ _ z => z, fun a o z _ => ?_, fun _ _ z => .inl z, fun a z => ?_, fun _ z => .inl z⟩
  · rw [upd_ne (ne_of_none z hp)]; exact z
  · by_cases q : a = p
    · subst q; exact hp
    · rw [upd_ne q] at z; exact z
theorem mkO_sp {kp : Bool} {c : Str} {m : MF} {ds : List Vl} {vs : List V} {Q : VK} {E : XK} (st : Sta K io F S H) (r : RepVs K io F ds vs) (h : RG K (RepA K) (mkO kp c m ds S) io F H Q E) (x dx : Addr) (hx : H x = none) (hd : H dx = none) (ne : dx ≠ x) :
    spM K m (.ref x :: vs) (upd (upd H dx (.own x)) x (.ins (He.ga K c) dx [])) (fun v H2 => v = .non ∧ Q (.ref x) H2) E := by
  have s1 := st.side (o := .own x) (st.notIn hd) (Same.free st.sub hd)
  have n1 : Nxt io F H io F (upd H dx (.own x)) := Nxt.side hd
  have hx1 : upd H dx (.own x) x = none := by rw [upd_ne (Ne.symm ne)]; exact hx
  have hi : (io ++ [some x])[S.length]? = some (some x) := by rw [← st.len]; simp
  have hF : F x = none := Same.free st.sub hx
  obtain ⟨s2, n2⟩ := s1.push (p := x) (o := .ins (He.ga K c) dx []) (c := .ins c [] []) hx1 ⟨x, dx, [], hi, hF, upd_same, rfl, rfl, fun j hm => by cases hm⟩
  have n12 := n1.trans n2
  refine ⟨io ++ [some x], F, S ++ [.ins c [] []], .c S.length :: ds, s2, ⟨_, _, rfl, ⟨x, hi, rfl⟩, r.mono n12.han n12.fr⟩, ?_⟩
  unfold mkO at h
  cases q : m (.c S.length :: ds) (S ++ [.ins c [] []]) with
  | bad => rw [q] at h; exact h.elim
  | exc c' d' S2 =>
    rw [q] at h
    exact fun io3 F3 H3 d n3 s3 xr => h (io3.take S.length) F3 H3 d ((n12.trans n3).cut st.len) (s3.cut _) xr
  | ok d S2 =>
    rw [q] at h
    intro io3 F3 H3 v n3 s3 rv
    cases d with
    | c k => exact h.elim
    | p y =>
      cases y with
      | non =>
        refine ⟨rv, ?_⟩
        cases kp with
        | true => exact h io3 F3 H3 (.ref x) (n12.trans n3) s3 ⟨x, n3.han _ _ hi, rfl⟩
        | false =>
          have h : RG K (RepA K) ((frz (.c S.length) S2).bind fun y S1 => .ok (.p y) (S1.take S.length)) io F H Q E := h
          obtain ⟨y, S4, F4, n4, s4, rp, hz, h4⟩ := s3.frz (d := .c S.length) (v := .ref x) ⟨x, n3.han _ _ hi, rfl⟩ (RG.step (n12.trans n3) h)
          rw [hz] at h
          exact h (io3.take S.length) F4 H3 (.ref x) (((n12.trans n3).trans n4).cut st.len) (s4.cut _) rp
      | _ => exact h.elim
end
def eMake (kp : Bool) (c : Str) (m : MF) (a : MA) : ME := fun ρ S => (a ρ S).bind fun ds S1 => mkO kp c m ds S1
section
variable {X : Cx} {W : WX} {e o : Expr} {es : List Expr} {mas mks : MA} {me mo : ME} {x f : Str} {p pos apos kpos : Pos} {params : Arguments} {ps ks : List Str} {k j n : Nat} {m : MF} {kws : List Keyword} {pm : List Nat} {kp : Bool}
theorem run_makeS {pins : List (Addr × Obj)} {σ : St} {H : Hp} {s : Shared} {Q : VK} {C f : Addr} {fd : FuncData} {sp : Sp} {E : St → XK} {us : List Value} {vs : List V} (M : Mk X.K C f) (F : FnG X.prog X.w X.K X.mg X.base k f fd ps sp) (hr : RoomG (k + 1) X.A) (hb : Binds X.K fd ps [])
    (hx : PassesAt (L2.CX X.prog X.w) X σ (E σ)) (I : Inv X pins σ H s) (r : Vals vs us)
    (h : ∀ x dx, H x = none → H dx = none → dx ≠ x → sp (.ref x :: vs) (upd (upd H dx (.own x)) x (.ins C dx [])) (fun v H2 => v = .non ∧ Q (.ref x) H2) (E σ)) :
    wpAny (model X.prog X.w) X.A (call (.ref C) us) (EP X pins σ Q) X.xe s := by
  have hq := h (s.heap.objs.size + 1) s.heap.objs.size (I.hok.fresh (Nat.le_succ _)) (I.hok.fresh (Nat.le_refl _)) (Nat.ne_of_lt (Nat.lt_succ_self _))
  have I2 := Inv.made (C := C) I
  have r2 : Vals (V.ref (s.heap.objs.size + 1) :: vs) (Value.ref (s.heap.objs.size + 1) :: us) := .cons rfl r
  have hl : (Value.ref (s.heap.objs.size + 1) :: us).length = ps.length := by
    have e := r2.length
    rw [F.len _ _ _ _ hq] at e
    exact e.symm
  have hb2 := hb { s with heap := (s.heap.push PySem.W.emptyDict).push (PySem.W.instObj C s.heap.objs.size) } (Value.ref (s.heap.objs.size + 1) :: us) I2.kIn (by rw [List.append_nil]; exact hl)
  rw [List.append_nil] at hb2
  refine wpAny_call (make_map (f := f) I.kIn M.makes M.init (beq_iff_eq.mp M.fn) (codeAny_mono (F.run _ X.stack _ _ ⟨Value.ref (s.heap.objs.size + 1) :: us, []⟩ (Value.ref (s.heap.objs.size + 1) :: us) _ _ (E σ) (hr.make C us [])
    (I2.env0.make C us []) hb2 r2 hq) fun r s' hq' => ?_))
  cases r with
  | error e => exact hx pins _ _ e s' I2 hq'
  | ok fl =>
    cases fl with
    | ret u =>
      obtain ⟨v, H', I3, rv, ev, q3⟩ := I2.after hq'
      subst ev
      exact ⟨rv, ⟨V.ref (s.heap.objs.size + 1), H', I3, rfl, q3⟩⟩
    | next => exact False.elim hq'
    | brk => exact False.elim hq'
    | cont => exact False.elim hq'
theorem oe_make (kp : Bool) (G : GC X.prog X.w X.K X.mg X.base x params ps k m) (hr : RoomG j X.A) (hk : k + 1 ≤ j) (tk : Takes X W) (ha : OA X W (e :: es) mas) (hg : Gl X x := by rfl)
    (hdb : (x == ("__debug__" : Str)) = false := by decide) (he : starEach (e :: es) X.env = (false, eval e X.env) :: starEach es X.env := by rfl) (hpl : (backTo pos (starEach es X.env)).any (·.1) = false := by rfl) :
    OE X W (.Call (.Name x p) (e :: es) [] pos) (eMake kp x m mas) := by
  obtain ⟨fd, F, hb, _⟩ := G.fn
  obtain ⟨t, q, ha⟩ := ha
  refine ⟨fun σ H Q => t σ H fun vs H1 => ∀ y dx, H1 y = none → H1 dx = none → dx ≠ y → spM X.K m (.ref y :: vs) (upd (upd H1 dx (.own y)) y (.ins (He.ga X.K x) dx [])) (fun v H2 => v = .non ∧ Q (.ref y) H2) (WE W σ), ⟨fun pins s σ H Q I h => ?_⟩, fun ρ S io F σ H Q st en h => ?_⟩
  · refine wpAny_Call_Name_kw (ld_glob I hg G.gl ?_ hdb)
    refine PySem.W.callWith_K (h₀ := X.base) I.ok.mod.kin G.mkr.kp (thn (q.run pos pins s σ H _ I h) fun us s1 ⟨vs, H1, I1, r, qq⟩ => ⟨I1.kIn, ?_⟩) he hpl
    exact run_makeS (E := WE W) G.mkr F (hr.mono hk) hb (passAt tk σ) I1 r qq
  · refine ha ρ S io F σ H _ st en (RG.bind h fun ds S1 io1 F1 H1 vs e1 n1 s1 r1 h1 => ?_)
    exact fun y dx hy hd ne => mkO_sp s1 r1 h1 y dx hy hd ne
structure GM (P : Program) (w : World) (K : PySem.W.Frag) (mg : Str → Option Value) (base : Heap) (x f : Str) (params : Arguments) (ps : List Str) (k : Nat) (m : MF) : Prop where
  cls : Cls K (He.ga K x)
  me : Meth K (He.ga K x) f (He.ma K (He.ga K x) f)
  fn : ∃ fd, FnG P w K mg base k (He.ma K (He.ga K x) f) fd ps (spM K m) ∧ Binds K fd ps [] ∧ HasPar fd params
def isO (c f : Str) (S : Sto) : Vl → Bool
  | .p (.obj c' ns _) => decide (c' = c) && decide (f ∉ ns)
  | .c k => (match S[k]? with
    | some (.ins c' ns _) => decide (c' = c) && decide (f ∉ ns)
    | _ => false)
  | _ => false
theorem Sta.isO {K : PySem.W.Frag} {io : Io} {F : Hp} {S : Sto} {H : Hp} {c f : Str} {d : Vl} {v : V} (st : Sta K io F S H) (r : RepV K io F d v) (h : Mir.isO c f S d = true) : ∃ a dx fs, v = .ref a ∧ H a = some (.ins (He.ga K c) dx fs) ∧ fs.lookup f = none := by
  cases d with
  | p x =>
    cases x with
    | obj c' ns xs =>
      have h : (decide (c' = c) && decide (f ∉ ns)) = true := h
      rw [Bool.and_eq_true, decide_eq_true_eq, decide_eq_true_eq] at h
      obtain ⟨rfl, hf⟩ := h
      obtain ⟨a, dx, gs, rfl, ha, hg, hr⟩ := r
      exact ⟨a, dx, gs, rfl, st.sub _ _ ha, fld_none hg hf⟩
    | _ => cases h
  | c k =>
    unfold Mir.isO at h
    dsimp only at h
    split at h
    · rename_i c' ns xs hk
      rw [Bool.and_eq_true, decide_eq_true_eq, decide_eq_true_eq] at h
      obtain ⟨rfl, hf⟩ := h
      obtain ⟨a, ha, rfl⟩ := r
      obtain ⟨b, dx, gs, hb, hF, hH, hg, hr, _⟩ := st.cel k _ hk
      rw [ha] at hb; cases hb
      exact ⟨a, dx, gs, rfl, hH, fld_none hg hf⟩
    · cases h
def eMeth (c f : Str) (m : MF) (o : ME) (a : MA) : ME := fun ρ S => (o ρ S).bind fun d S1 => if isO c f S1 (nv S1 d) then (a ρ S1).bind fun ds S2 => m (d :: ds) S2 else .bad
def eMethK (c f : Str) (m : MF) (n kl : Nat) (pm : List Nat) (o : ME) (a b : MA) : ME := fun ρ S => (o ρ S).bind fun d S1 => if isO c f S1 (nv S1 d) then (a ρ S1).bind fun ds S2 => (b ρ S2).bind fun zs S3 => if ds.length = n ∧ zs.length = kl then m (permL (.p .non) pm (d :: ds ++ zs)) S3 else .bad else .bad
theorem oe_meth {pl : Sem Bool} (G : GM X.prog X.w X.K X.mg X.base x f params ps k m) (hr : RoomG j X.A) (hk : k ≤ j) (tk : Takes X W) (ho : OE X W o mo) (ha : OA X W (e :: es) mas)
    (hst : starEach (e :: es) X.env = (false, eval e X.env) :: starEach es X.env := by rfl) (hpl : (backTo pos (starEach es X.env)).any (·.1) = false := by rfl)
    (ht : eval (.Call (.Attribute o f apos) (e :: es) [] pos) X.env = (do
      let ov ← eval o X.env
      standAt apos.atName
      let (f, first) ← holding [ov] (getMethod ov f pl)
      callWith pos f first (backTo pos (starEach (e :: es) X.env)) (backToKw pos (keywordEach [] X.env))) := by rfl) :
    OE X W (.Call (.Attribute o f apos) (e :: es) [] pos) (eMeth x f m mo mas) := by
  obtain ⟨fd, F, hb, _⟩ := G.fn
  obtain ⟨u, p, ho⟩ := ho
  obtain ⟨t, q, ha⟩ := ha
  refine ⟨fun σ H Q => u σ H fun y H1 => ∃ a dx fs, y = .ref a ∧ H1 a = some (.ins (He.ga X.K x) dx fs) ∧ fs.lookup f = none ∧ t σ H1 fun vs H2 => spM X.K m (y :: vs) H2 Q (WE W σ), ⟨fun pins s σ H Q I h => ?_⟩, fun ρ S io F σ H Q st en h => ?_⟩
  · refine PySem.W.methodCall_KW (pl := pl) (thn (p.run pins s σ H _ I h) fun v s1 ⟨y, H1, I1, rx, a, dx, fs, ex, ea, l, qq⟩ => ?_) ht
    subst ex
    obtain rfl : v = Value.ref a := rx
    refine getmeth_ok I1 ea G.cls G.me l ?_
    refine PySem.W.callWith_K (first := [.ref a]) (h₀ := X.base) I.ok.mod.kin G.me.kp (thn (q.run pos pins s1 σ H1 _ I1 qq) fun us s2 ⟨vs, H2, I2, r, q2⟩ => ⟨I2.kIn, ?_⟩) hst hpl
    exact run_fnG (E := WE W) (us := .ref a :: us) (vs := .ref a :: vs) F (hr.mono hk) hb (passAt tk σ) I2 (.cons rfl r) q2
  · refine ho ρ S io F σ H _ st en (RG.bind h fun d S1 io1 F1 H1 v e1 n1 s1 r1 h1 => ?_)
    by_cases hq : isO x f S1 (nv S1 d) = true
    · rw [if_pos hq] at h1
      obtain ⟨a, dx, fs, e2, e3, e4⟩ := s1.isO (s1.nv r1) hq
      refine ⟨a, dx, fs, e2, e3, e4, ?_⟩
      refine ha ρ S1 io1 F1 σ H1 _ s1 (en.nxt n1) (RG.bind h1 fun ds S2 io2 F2 H2 vs e5 n2 s2 r2 h2 => ?_)
      exact ⟨io2, F2, S2, d :: ds, s2, ⟨v, vs, rfl, r1.mono n2.han n2.fr, r2⟩, h2⟩
    · rw [if_neg hq] at h1; exact h1.elim
structure GP (P : Program) (w : World) (K : PySem.W.Frag) (mg : Str → Option Value) (base : Heap) (x f : Str) (k : Nat) (m : MF) : Prop where
  cls : Cls K (He.ga K x)
  fn : ∃ p g fd ps, PropOf K (He.ga K x) f p g ∧ FnG P w K mg base k g fd ps (spM K m) ∧ Binds K fd ps []
theorem getpropG {pins : List (Addr × Obj)} {σ : St} {H : Hp} {s : Shared} {Q : VK} {b : Bool} {E' : Value → Shared → Prop} {C pp g a dx : Addr} {fs : List (Str × V)} {fd : FuncData} {sp : Sp} (I : Inv X pins σ H s) (ea : H a = some (.ins C dx fs)) (c : Cls X.K C) (hp : PropOf X.K C f pp g)
    (F : FnG X.prog X.w X.K X.mg X.base k g fd ps sp) (hr : RoomG (k + 1) X.A) (hb : Binds X.K fd ps []) (h : sp [.ref a] H Q (fun _ _ _ => False)) : wpAny (model X.prog X.w) X.A (getAttr (.ref a) f b) (EP X pins σ Q) E' s := by
  obtain ⟨mA, O, _, _, _, _⟩ := ins_get I.hok ea
  obtain ⟨od, J, _⟩ := O.look
  obtain ⟨rest, hrec⟩ := hp.rec_
  have I1 := I.tok (s.toks + 1)
  have hl : ([Value.ref a] ++ []).length = ps.length := (F.len _ _ _ _ h)
  have hc : (PySem.W.clsIn X.K C).isSome = true := by
    obtain ⟨cd, hc, _⟩ := PySem.W.any_some c.hd
    rw [hc]
    rfl
  have hx : Passes (L2.CX X.prog X.w) X.nox (fun _ _ _ => False) := passes_call (W := W0) takes0 fun _ _ _ _ h => h
  refine PySem.W.get_bind I.kIn J (PySem.W.plainGet_of (c.get f)).1 (PySem.W.findObj_data hc hp.at_ hp.get hp.tak) (PySem.W.plainGet_of (c.get f)).2 (wpAny_call (PySem.W.prop_get (s := { s with toks := s.toks + 1 }) I.kIn hrec ?_))
  refine codeAny_mono (F.run X.A.in1 X.stack { s with toks := s.toks + 1 } H ⟨[.ref a], []⟩ [.ref a] [.ref a] Q _ hr.in1 I1.env0.in1 (hb _ [.ref a] I1.kIn hl) (.cons rfl .nil) h) fun r s' hq => ?_
  match r, hq with
  | .error er, hq => exact False.elim (hx pins σ H { s with toks := s.toks + 1 } er s' (I1.wish _) hq)
  | .ok (.ret u), hq =>
    obtain ⟨v, H', I3, rv, q3⟩ := I1.after hq
    show wpAny _ _ (handedOut u) _ _ _
    rw [PySem.W.handedOut_of (handed_of rv)]
    exact wpAny_pure ⟨v, H', I3, rv, q3⟩
  | .ok .next, hq => exact hq.elim
  | .ok .brk, hq => exact hq.elim
  | .ok .cont, hq => exact hq.elim
def isC (c : Str) (S : Sto) : Vl → Bool
  | .p (.obj c' _ _) => decide (c' = c)
  | .c k => (match S[k]? with
    | some (.ins c' _ _) => decide (c' = c)
    | _ => false)
  | _ => false
theorem Sta.isC {K : PySem.W.Frag} {io : Io} {F : Hp} {S : Sto} {H : Hp} {c : Str} {d : Vl} {v : V} (st : Sta K io F S H) (r : RepV K io F d v) (h : Mir.isC c S d = true) : ∃ a dx fs, v = .ref a ∧ H a = some (.ins (He.ga K c) dx fs) := by
  cases d with
  | p x =>
    cases x with
    | obj c' ns xs =>
      have h : decide (c' = c) = true := h
      rw [decide_eq_true_eq] at h
      subst h
      obtain ⟨a, dx, gs, rfl, ha, hg, hr⟩ := r
      exact ⟨a, dx, gs, rfl, st.sub _ _ ha⟩
    | _ => cases h
  | c k =>
    unfold Mir.isC at h
    dsimp only at h
    split at h
    · rename_i c' ns xs hk
      rw [decide_eq_true_eq] at h
      subst h
      obtain ⟨a, ha, rfl⟩ := r
      obtain ⟨b, dx, gs, hb, hF, hH, hg, hr, _⟩ := st.cel k _ hk
      rw [ha] at hb; cases hb
      exact ⟨a, dx, gs, rfl, hH⟩
    · cases h
def eProp (c : Str) (m : MF) (o : ME) : ME := fun ρ S => (o ρ S).bind fun d S1 => if isC c S1 (nv S1 d) then (m [d] S1).nox else .bad
theorem oe_prop (G : GP X.prog X.w X.K X.mg X.base x f k m) (hr : RoomG j X.A) (hk : k + 1 ≤ j) (ho : OE X W o mo) (hab : attributeBase o f X.env (eval o X.env) = eval o X.env := by rfl) : OE X W (.Attribute o f pos) (eProp x m mo) := by
  obtain ⟨pp, g, fd, ps, hp, F, hb⟩ := G.fn
  obtain ⟨u, p, ho⟩ := ho
  refine ⟨fun σ H Q => u σ H fun y H1 => ∃ a dx fs, y = .ref a ∧ H1 a = some (.ins (He.ga X.K x) dx fs) ∧ spM X.K m [.ref a] H1 Q (fun _ _ _ => False), ⟨fun pins s σ H Q I h => ?_⟩, fun ρ S io F σ H Q st en h => ?_⟩
  · refine attr_of hab (thn (p.run pins s σ H _ I h) fun uu s1 ⟨y, H1, I1, rx, a, dx, fs, ex, ea, q⟩ => ?_)
    subst ex
    obtain rfl : uu = Value.ref a := rx
    exact getpropG I1 ea G.cls hp F (hr.mono hk) hb q
  refine ho ρ S io F σ H _ st en (RG.bind h fun d S1 io1 F1 H1 v e1 n1 s1 r1 h1 => ?_)
  by_cases hq : isC x S1 (nv S1 d) = true
  · rw [if_pos hq] at h1
    obtain ⟨a, dx, fs, e2, e3⟩ := s1.isC (s1.nv r1) hq
    subst e2
    refine ⟨a, dx, fs, rfl, e3, io1, F1, S1, [d], s1, ⟨.ref a, [], rfl, r1, rfl⟩, ?_⟩
    cases q : m [d] S1 with
    | bad => rw [q] at h1; exact h1.elim
    | exc c x S2 => rw [q] at h1; exact h1.elim
    | ok y S2 => rw [q] at h1; exact h1
  · rw [if_neg hq] at h1; exact h1.elim
end
end Mir

namespace Mir
open PySem L2
theorem repl_ints {K : PySem.W.Frag} {F : Hp} : ∀ ns : List Int, RepL K F (ns.map P.int) (ns.map V.int)
  | [] => .nil
  | _ :: ns => .cons rfl (repl_ints ns)
theorem law_callG {Pr : Program} {w : World} {K : PySem.W.Frag} {mg mb : Str → Option Value} {k : Nat} {fa a : Addr} {fd : FuncData} {x : Str} {m : MF} {s₁ : Shared} {vs : List Value} {ns : List Int} {S' : Sto}
    (KX : K.In s₁.heap) (hns : s₁.heap.Ns mainGlobals mg) (hb : s₁.heap.Ns builtinsNs mb) (hbb : ∀ x : Str, x ≠ "__name__" → mb x = bootBuiltins x) (hlim : s₁.heap.NoLimit) (hg : s₁.gens = #[])
    (ha : s₁.heap.get? a = some { cls := .type "list", data := .seq vs.toArray }) (hi : PyProof.Rows.IntsAre vs ns) (hl : ns.length ≤ sizeLine) (hr : RoomG k callerA)
    (F : ∀ base : Heap, K.In base → base.Ns mainGlobals mg → FnG Pr w K mg base k fa fd [x] (spM K m)) (hbind : ∀ (s : Shared) (u : Value), BindsTo s fd ⟨[u], []⟩ [(x, u)])
    (hm : m [.p (.scr (ns.map P.int))] [] = .ok (.p (.bl true)) S') :
    codeAny (model Pr w) callerA (.call (.ref fa) ⟨[.ref a], []⟩) (fun r s' => r = .ok (.ret (.bool true)) ∧ OldK s₁.heap s'.heap ∧ s'.os = s₁.os ∧ PyProof.Rows.AllBare s'.gens) s₁ := by
  have rv := vals_ints hi
  have lenV := hi.length
  have go : ∀ H : Hp, Only H → SqL K H a (ns.map V.int) → HOk Pr w H s₁.heap → (∀ b, H b ≠ none → b = a) → (H a ≠ none → K.lookup a = none) →
      codeAny (model Pr w) callerA (.call (.ref fa) ⟨[.ref a], []⟩) (fun r s' => r = .ok (.ret (.bool true)) ∧ OldK s₁.heap s'.heap ∧ s'.os = s₁.os ∧ PyProof.Rows.AllBare s'.gens) s₁ := by
    intro H hO hS hok hA hK
    have off : ∀ {b : Addr} {o : Obj}, s₁.heap.get? b = some o → (b = a → H b = none) → (hidT s₁.heap H).get? b = some o := fun {b o} e n => hidT_get e (by
      cases q : H b with
      | none => rfl
      | some u =>
        have z := n (hA b (by rw [q]; simp))
        rw [q] at z; cases z)
    have nsK : ∀ {b : Addr} {mm : Str → Option Value}, s₁.heap.Ns b mm → (hidT s₁.heap H).Ns b mm := fun {b mm} ⟨o, es, ep, e, d, r⟩ => ⟨o, es, ep, off e (fun z => by
      subst z
      rw [ha] at e; cases e
      exact nomatch (show Data.seq vs.toArray _ = Data.dict es ep from d)), d, r⟩
    have hKb : K.In (hidT s₁.heap H) := fun b o e => off (KX b o e) (fun z => by
      subst z
      cases q : H b with
      | none => rfl
      | some u => rw [hK (by rw [q]; simp)] at e; cases e)
    have e0 : Env0 Pr w K mg (hidT s₁.heap H) callerA [] s₁ H := ⟨rfl, ⟨hKb, nsK hns, ⟨mb, nsK hb, hbb⟩, let ⟨mc, h1, h2⟩ := hlim; ⟨mc, nsK h1, h2⟩⟩, fun b o e => of_hidT e, Nat.le_of_eq (hidT_size _ _), trivial, fun b hb => absurd (show b ∈ ([] : List Addr) from hb) (by simp), hok, .of_eq hg⟩
    have st : Sta K [] H [] H := ⟨rfl, fun j k a h => by simp at h, Same.refl _, fun k a h => by simp at h, fun k c h => by simp at h⟩
    have sp : spM K m [.ref a] H (fun v _ => v = .bl true) (fun _ _ _ => False) := by
      refine ⟨[], H, [], [.p (.scr (ns.map P.int))], st, ⟨_, [], rfl, ⟨a, ns.map V.int, rfl, hS, repl_ints ns⟩, rfl⟩, ?_⟩
      rw [hm]
      exact fun io' F' H' v _ _ r => r
    refine codeAny_mono ((F _ hKb (nsK hns)).run callerA [] s₁ H ⟨[.ref a], []⟩ [.ref a] [.ref a] _ _ hr e0 (hbind s₁ (.ref a)) (.cons rfl .nil) sp) fun r s' h => ?_
    match r, h with
    | .error e, ⟨_, _, _, _, _, _, _, _, _, _, _, _, z⟩ => exact z.elim
    | .ok .next, h => exact h.elim
    | .ok .brk, h => exact h.elim
    | .ok .cont, h => exact h.elim
    | .ok (.ret u), ⟨v, H', os, bare, un, hok', r', q⟩ =>
      have q : v = .bl true := q
      subst q
      obtain rfl : u = Value.bool true := r'
      refine ⟨rfl, OldK.of_keep fun b o e => ?_, os, bare⟩
      cases q : H b with
      | none => exact un.keep b o e q (by intro z; exact absurd (show b ∈ ([] : List Addr) from z) (by simp)) (by simp)
      | some u =>
        rcases hO b with z | ⟨ob, xs, z⟩
        · rw [q] at z; cases z
        · obtain ⟨e1, _⟩ := hok b _ z
          obtain ⟨e2, _⟩ := hok' b _ (un.frzs b ob _ z)
          rw [e] at e1; cases e1
          exact e2
  cases hk : K.lookup a with
  | some o =>
    have e := KX a o hk
    rw [ha] at e
    cases e
    exact go (fun _ => none) (fun _ => .inl rfl) (.inr ⟨_, vs.toArray, _, hk, rfl, rfl, rfl, by rw [List.size_toArray, lenV]; exact hl, by simpa using rv⟩) (fun b u z => nomatch (show (none : Option HO) = some u from z)) (fun b z => absurd rfl z) fun z => absurd rfl z
  | none =>
    obtain ⟨H0, hH0⟩ : ∃ H0 : Hp, H0 = fun b => if b = a then some (HO.frz { cls := .type "list", data := .seq vs.toArray } (.lst (ns.map V.int))) else none := ⟨_, rfl⟩
    have at1 : H0 a = some (HO.frz { cls := .type "list", data := .seq vs.toArray } (.lst (ns.map V.int))) := by rw [hH0]; exact if_pos rfl
    have at2 : ∀ b, b ≠ a → H0 b = none := fun b hb => by rw [hH0]; exact if_neg hb
    refine go H0 (fun b => ?_) (.inl (.inr ⟨_, at1⟩)) (fun b u z => ?_) (fun b z => ?_) fun _ => hk
    · by_cases hb : b = a
      · subst hb; exact .inr ⟨_, _, at1⟩
      · exact .inl (at2 b hb)
    · by_cases hb : b = a
      · subst hb
        rw [at1] at z
        cases z
        exact ⟨ha, by rw [List.length_map]; exact hl, vs, _, rv, ha⟩
      · rw [at2 b hb] at z; cases z
    · by_cases hb : b = a
      · exact hb
      · exact absurd (at2 b hb) z
theorem walkG {l : PySem.W.OpenLaw} {n k : Nat} {q : Program} {loose : List Str} {XP : (Str → Option Value) → Heap → Prop} {YP : World → Heap → Prop} {d : DefRec} {x : Str} {m : MF}
    (hn : l.most = some n) (hn2 : n ≤ sizeLine) (hdf : d.params.defaults = []) (hr : RoomG k callerA)
    (F : ∀ (w : World) (mg : Str → Option Value) (fa : Addr) (h : Heap), YP w h → h.Ns mainGlobals mg → mg d.name = some (.ref fa) →
      ∃ (K : PySem.W.Frag) (fd : FuncData), K.In h ∧ (∀ (s : Shared) (u : Value), BindsTo s fd ⟨[u], []⟩ [(x, u)]) ∧ ∀ base : Heap, K.In base → base.Ns mainGlobals mg → FnG l.prog w K mg base k fa fd [x] (spM K m))
    (hm : ∀ ns : List Int, ns.length ≤ n → ∃ S', m [.p (.scr (ns.map P.int))] [] = .ok (.p (.bl true)) S') :
    PySem.W.WalkO q loose XP YP l.row.toRowW d [] (fun f vs => PySem.call f vs) := by
  refine Att.attach_call hn hdf fun w s₀ s₁ mg mb fa o pm cd doc a vs ns G Y ho hd hcd hmg hobj hints hlen hg => ?_
  obtain ⟨K, fd, KX, hb, hF⟩ := F w mg fa _ Y G.T.g hmg
  obtain ⟨S', e⟩ := hm ns hlen
  exact law_callG KX G.T.g G.T.b G.T.builtins G.T.nolimit hg hobj hints (Nat.le_trans hlen hn2) hr hF hb e
structure DefM where
  ad : PySem.W.Frag → Addr
  name : Str
  qual : Str
  params : Arguments
  body : List Stmt
  scope : Scope
def fnM (K : PySem.W.Frag) (a : Addr) : He.FnW := match K.lookup a with
  | some ⟨_, _, .func fd, _⟩ => some (fd.name, fd.qualname, fd.params, fd.body, fd.scope, fd.globals, fd.closure, fd.builtins)
  | _ => none
def DefM.val (d : DefM) : He.FnW := some (d.name, d.qual, d.params, .stmts d.body, d.scope, mainGlobals, [], builtinsNs)
def DefM.ok (K : PySem.W.Frag) (d : DefM) : Bool := PySem.W.keepIn K (.ref (d.ad K)) && (match K.lookup (d.ad K) with
  | some ⟨_, _, .func fd, _⟩ => PySem.W.codeIn K fd.code d.qual && He.dflB K fd.defaults []
  | _ => false)
theorem DefM.funD {K : PySem.W.Frag} {d : DefM} (e : fnM K (d.ad K) = d.val) (c : d.ok K = true) : ∃ fd, FunD K d.name d.qual d.params d.body d.scope [] [] (d.ad K) fd := by
  unfold DefM.ok at c
  rw [Bool.and_eq_true] at c
  obtain ⟨hk, c⟩ := c
  unfold fnM at e
  cases q : K.lookup (d.ad K) with
  | none => rw [q] at c; cases c
  | some o =>
    obtain ⟨oc, od, dt, osl⟩ := o
    rw [q] at c e
    cases dt with
    | func fd =>
      obtain ⟨n1, n2, n3, n4, n5, n6, n7, n8, n9, n10, n11, n12, n13, n14, n15⟩ := fd
      have e2 : (some (n1, n2, n3, n4, n5, n6, n7, n15) : He.FnW) = some (d.name, d.qual, d.params, .stmts d.body, d.scope, mainGlobals, [], builtinsNs) := e
      simp only [Option.some.injEq, Prod.mk.injEq] at e2
      obtain ⟨h1, h2, h3, h4, h5, h6, h7, h9⟩ := e2
      subst h1 h2 h3 h4 h5 h6 h7 h9
      dsimp only at c
      rw [Bool.and_eq_true] at c
      exact ⟨_, ⟨oc, od, _, _, _, _, _, _, _, osl, rfl, q, c.1, He.dflB_ok c.2, .inl rfl⟩, hk⟩
    | _ => cases c
abbrev AlM : Type := Bool × List He.FnW
def obsM (ck : PySem.W.Frag → Bool) (fn : List DefM) (K : PySem.W.Frag) : AlM := (ck K && fn.all fun d => d.ok K, fn.map fun d => fnM K (d.ad K))
def valM (fn : List DefM) : AlM := (true, fn.map DefM.val)
def SaysM (ck : PySem.W.Frag → Bool) (fn : List DefM) (K : PySem.W.Frag) : Prop := obsM ck fn K = valM fn
def hasX (m a : Nat) : Bool := Nat.beq (Nat.land (Nat.shiftRight m a) 1) 1
def addX : List Addr → Nat → List Addr → List Addr × Nat
  | [], m, acc => (acc.reverse, m)
  | a :: l, m, acc => match hasX m a with
    | true => addX l m acc
    | false => addX l (Nat.lor m (Nat.shiftLeft 1 a)) (a :: acc)
def refsX (g : Addr → Option Obj) (a : Addr) : List Addr := match g a with
  | some o => He.refsD o
  | none => []
def bfsX (g : Addr → Option Obj) : Nat → List Addr → Nat → List Addr
  | 0, fr, _ => fr
  | n + 1, fr, m => match addX (fr.flatMap (refsX g)) m [] with
    | (nw, m2) => fr ++ bfsX g n nw m2
def asX (g : Addr → Option Obj) (n : Nat) : List Addr := bfsX g n [mainGlobals] (Nat.shiftLeft 1 mainGlobals)
def obsMG (n : Nat) (ck : PySem.W.Frag → Bool) (fn : List DefM) (g : Addr → Option Obj) : AlM := obsM ck fn (He.frG g (asX g n))
def hookM (n : Nat) (ck : PySem.W.Frag → Bool) (fn : List DefM) : PySem.W.Hook where
  α := AlM
  obs := fun s => obsMG n ck fn s.heap.get?
  val := fun _ => valM fn
  says := fun _ h => ∃ K : PySem.W.Frag, K.In h ∧ SaysM ck fn K
  of := fun _ _ e => ⟨_, He.frG_in, e⟩
  keeps := fun _ _ _ ⟨K, hK, c⟩ k => ⟨K, PySem.W.Frag.In.keeps hK k, c⟩
theorem obsMG_eq {n : Nat} {ck : PySem.W.Frag → Bool} {fn : List DefM} {g : Addr → Option Obj} {s : Shared} (h : ∀ a, g a = s.heap.get? a) : obsMG n ck fn g = (hookM n ck fn).obs s := by
  have e : g = s.heap.get? := funext h
  rw [e] <;> rfl
section
variable {ck : PySem.W.Frag → Bool} {fn : List DefM} {K : PySem.W.Frag}
theorem SaysM.chk (c : SaysM ck fn K) : ck K = true := (He.ba (show (ck K && fn.all fun d => d.ok K) = true from congrArg (fun z : AlM => z.1) c)).1
theorem SaysM.def_ (c : SaysM ck fn K) (i : Nat) {d : DefM} (h : fn[i]? = some d := by rfl) : ∃ fd, FunD K d.name d.qual d.params d.body d.scope [] [] (d.ad K) fd := by
  have c2 := (He.ba (show (ck K && fn.all fun d => d.ok K) = true from congrArg (fun z : AlM => z.1) c)).2
  have e : fn.map (fun d => fnM K (d.ad K)) = fn.map DefM.val := congrArg (fun z : AlM => z.2) c
  have e2 : (fn.map fun d => fnM K (d.ad K))[i]? = (fn.map DefM.val)[i]? := by rw [e]
  rw [List.getElem?_map, List.getElem?_map, h] at e2
  exact DefM.funD (Option.some.inj e2) (List.all_eq_true.mp c2 d (List.mem_of_getElem? h))
end
def pa (K : PySem.W.Frag) (C f : Str) : Addr := He.ma K (He.ga K C) f
def pg (K : PySem.W.Frag) (C f : Str) : Addr := match PySem.W.recIn K (pa K C f) "property" with
  | some (.ref g :: _) => g
  | _ => 0
def propB (K : PySem.W.Frag) (C f : Str) : Bool := He.eqO (PySem.W.findIn K (.ref (He.ga K C)) f) (some (some (.ref (pa K C f)))) && (He.eqO (PySem.W.specialIn K (.ref (pa K C f)) "__get__") (some (some (.builtin "property.__get__"))) &&
  (decide (PySem.W.takesIn K (.ref (pa K C f)) = some true) && (match PySem.W.recIn K (pa K C f) "property" with
    | some (.ref _ :: _) => true
    | _ => false)))
theorem propB_ok {K : PySem.W.Frag} {C f : Str} (h : propB K C f = true) : PropOf K (He.ga K C) f (pa K C f) (pg K C f) := by
  unfold propB at h
  obtain ⟨h1, h⟩ := He.ba h
  obtain ⟨h2, h⟩ := He.ba h
  obtain ⟨h3, h4⟩ := He.ba h
  refine ⟨He.eqO_ok h1, He.eqO_ok h2, of_decide_eq_true h3, ?_⟩
  unfold pg
  split at h4
  · rename_i g r e
    rw [e]
    exact ⟨_, rfl⟩
  · cases h4
inductive Tg where
  | b (n : String) | o (c : Str)
def tgOf (S : Sto) : Vl → Option Tg
  | .p .non => some (.b "NoneType")
  | .p (.bl _) => some (.b "bool")
  | .p (.int _) => some (.b "int")
  | .p (.str _) => some (.b "str")
  | .p (.tup _) => some (.b "tuple")
  | .p (.lst _) => some (.b "list")
  | .p (.dct _ _) => some (.b "dict")
  | .p (.obj c _ _) => some (.o c)
  | .c k => (match S[k]? with
    | some (.lst _) => some (.b "list")
    | some (.lsv _) => some (.b "list")
    | some (.dct _ _) => some (.b "dict")
    | some (.ins c _ _) => some (.o c)
    | _ => none)
  | _ => none
def comTy : List String := ["NoneType", "bool", "int", "str", "tuple", "list", "dict"]
def isB (a n : String) : Option Bool := if a = n ∧ a ∈ comTy then some true else if a = "bool" ∧ n = "int" then some true else if a ∈ comTy ∧ n ∈ comTy ∧ a ≠ n then some false else none
theorem isB_ok {K : PySem.W.Frag} {a n : String} {b : Bool} (h : isB a n = some b) : PySem.W.kitOne K (.type a) (.type n) = some b := by
  refine kit_ty ?_
  unfold isB at h
  have key : ∀ a ∈ comTy, ∀ n ∈ comTy, kitB a n = some (a == n || (a == "bool" && n == "int")) := by decide +kernel
  split at h
  · rename_i q
    cases h
    rw [key a q.2 n (by rw [← q.1]; exact q.2), q.1]
    simp
  · split at h
    · rename_i q
      cases h
      rw [q.1, q.2]
      decide +kernel
    · rename_i q1 q2
      split at h
      · rename_i q
        cases h
        rw [key a q.1 n q.2.1]
        have : (a == n) = false := beq_eq_false_iff_ne.mpr q.2.2
        rw [this]
        have : (a == "bool" && n == "int") = false := by
          rw [Bool.eq_false_iff]
          intro z
          rw [Bool.and_eq_true, beq_iff_eq, beq_iff_eq] at z
          exact q2 z
        rw [this]
        rfl
      · cases h
structure IsiC (K : PySem.W.Frag) (cs : List Str) : Prop where
  cls : ∀ c ∈ cs, Cls K (He.ga K c) ∧ PySem.W.findIn K (.ref (He.ga K c)) "__class__" = some (some (.builtin "object.__class__")) ∧ PySem.W.specialIn K (.builtin "object.__class__") "__get__" = some (some (.builtin "getset_descriptor.__get__")) ∧
    PySem.W.takesIn K (.builtin "object.__class__") = some true ∧ PySem.W.mroIn K (He.ga K c) (.type "object") = some true
  up : ∀ c ∈ cs, ∀ n ∈ comTy, PySem.W.kitOne K (.ref (He.ga K c)) (.type n) = some false
  dn : ∀ c ∈ cs, ∀ n ∈ comTy, PySem.W.kitOne K (.type n) (.ref (He.ga K c)) = some false
  ne : ∀ c ∈ cs, ∀ d ∈ cs, c ≠ d → PySem.W.kitOne K (.ref (He.ga K c)) (.ref (He.ga K d)) = some false
def isiB (K : PySem.W.Frag) (cs : List Str) : Bool := (cs.all fun c => (He.Fa.cls c).ok K && (He.eqO (PySem.W.findIn K (.ref (He.ga K c)) "__class__") (some (some (.builtin "object.__class__"))) && (He.eqO (PySem.W.specialIn K (.builtin "object.__class__") "__get__") (some (some (.builtin "getset_descriptor.__get__"))) &&
    (decide (PySem.W.takesIn K (.builtin "object.__class__") = some true) && decide (PySem.W.mroIn K (He.ga K c) (.type "object") = some true))))) &&
  ((cs.all fun c => comTy.all fun n => decide (PySem.W.kitOne K (.ref (He.ga K c)) (.type n) = some false)) && ((cs.all fun c => comTy.all fun n => decide (PySem.W.kitOne K (.type n) (.ref (He.ga K c)) = some false)) &&
    (cs.all fun c => cs.all fun d => decide (c = d) || decide (PySem.W.kitOne K (.ref (He.ga K c)) (.ref (He.ga K d)) = some false))))
theorem isiB_ok {K : PySem.W.Frag} {cs : List Str} (h : isiB K cs = true) : IsiC K cs := by
  unfold isiB at h
  obtain ⟨h1, h⟩ := He.ba h
  obtain ⟨h2, h⟩ := He.ba h
  obtain ⟨h3, h4⟩ := He.ba h
  rw [List.all_eq_true] at h1 h2 h3 h4
  refine ⟨fun c hc => ?_, fun c hc n hn => ?_, fun c hc n hn => ?_, fun c hc d hd ne => ?_⟩
  · obtain ⟨a, h⟩ := He.ba (h1 c hc)
    obtain ⟨b, h⟩ := He.ba h
    obtain ⟨c', h⟩ := He.ba h
    obtain ⟨d, e⟩ := He.ba h
    exact ⟨He.cls_ok a, He.eqO_ok b, He.eqO_ok c', of_decide_eq_true d, of_decide_eq_true e⟩
  · exact of_decide_eq_true (List.all_eq_true.mp (h2 c hc) n hn)
  · exact of_decide_eq_true (List.all_eq_true.mp (h3 c hc) n hn)
  · have z := List.all_eq_true.mp (h4 c hc) d hd
    rw [Bool.or_eq_true, decide_eq_true_eq, decide_eq_true_eq] at z
    rcases z with z | z
    · exact absurd z ne
    · exact z
def isT (cs : List Str) : Tg → P → Option Bool
  | .b a, .ty n => isB a n
  | .o c, .ty n => if c ∈ cs ∧ n ∈ comTy then some false else none
  | .b a, .glo x => if x ∈ cs ∧ a ∈ comTy then some false else none
  | .o c, .glo x => if c ∈ cs ∧ x ∈ cs then some (decide (c = x)) else none
  | _, _ => none
def eIsi (cs : List Str) (a b : ME) : ME := fun ρ S => (a ρ S).bind fun d S1 => (b ρ S1).bind fun q S2 => match tgOf S2 (nv S2 d), q with
  | some t, .p y => (match isT cs t y with
    | some r => .ok (.p (.bl r)) S2
    | none => .bad)
  | _, _ => .bad
def tgV (K : PySem.W.Frag) : Tg → Value
  | .b n => .type n
  | .o c => .ref (He.ga K c)
theorem Sta.tyx {K : PySem.W.Frag} {io : Io} {F : Hp} {S : Sto} {H : Hp} {cs : List Str} {d : Vl} {v : V} {t : Tg} (st : Sta K io F S H) (I : IsiC K cs) (r : RepV K io F d v) (h : tgOf S d = some t) (hc : ∀ c, t = .o c → c ∈ cs) : TyX K H v (tgV K t) := by
  have sq : ∀ {a : Addr} {vs : List V}, SqT K H a vs → TyX K H (.ref a) (.type "tuple") := fun {a vs} q => by
    rcases q with q | ⟨o, its, n, h1, h2, _⟩
    · rcases q with q | ⟨ob, q⟩
      · exact .base (.tup q)
      · exact .fTuple q
    · exact .kTuple h1 h2
  have ob : ∀ {a dx : Addr} {gs : List (Str × V)} {c : Str}, t = .o c → H a = some (.ins (He.ga K c) dx gs) → TyX K H (.ref a) (.ref (He.ga K c)) := fun {a dx gs c} e q => by
    obtain ⟨h1, h2, h3, h4, h5⟩ := I.cls c (hc c e)
    exact .base (.ins q h1 h2 h3 h4 h5)
  cases d with
  | p x =>
    cases x with
    | non => cases h; have r : v = _ := r; subst r; exact .base .non
    | bl y => cases h; have r : v = _ := r; subst r; exact .base (.bl _)
    | int y => cases h; have r : v = _ := r; subst r; exact .base (.int _)
    | str y => cases h; have r : v = _ := r; subst r; exact .base (.str _)
    | tup y => cases h; obtain ⟨a, vs, rfl, h1, _⟩ := r; exact sq (sqt_mono st.sub h1)
    | lst y => cases h; obtain ⟨a, vs, rfl, h1, _⟩ := r; exact .base (.lst (st.sub _ _ h1))
    | dct y z => cases h; obtain ⟨a, vs, rfl, h1, _⟩ := r; exact .base (.dK (st.sub _ _ h1))
    | obj c ns xs => cases h; obtain ⟨a, dx, gs, rfl, h1, _⟩ := r; exact ob rfl (st.sub _ _ h1)
    | ty _ => cases h
    | glo _ => cases h
    | raw _ => cases h
    | rwp _ _ => cases h
    | dcl _ _ => cases h
    | scr _ => cases h
  | c k =>
    unfold tgOf at h
    dsimp only at h
    obtain ⟨a, ha, rfl⟩ := r
    cases hk : S[k]? with
    | none => rw [hk] at h; cases h
    | some cc =>
      rw [hk] at h
      cases cc with
      | lst xs =>
        cases h
        obtain ⟨b, vs, hb, _, hH, _⟩ := st.cel k _ hk
        rw [ha] at hb; cases hb
        exact .base (.lst hH)
      | lsv xs =>
        cases h
        obtain ⟨b, vs, hb, _, hH, _⟩ := st.cel k _ hk
        rw [ha] at hb; cases hb
        exact .base (.lst hH)
      | dct ks xs =>
        cases h
        obtain ⟨b, vs, hb, _, hH, _⟩ := st.cel k _ hk
        rw [ha] at hb; cases hb
        exact .base (.dK hH)
      | ins c ns xs =>
        cases h
        obtain ⟨b, dx, gs, hb, _, hH, _⟩ := st.cel k _ hk
        rw [ha] at hb; cases hb
        exact ob rfl hH
      | fz _ => cases h
      | res => cases h
      | tup _ => cases h
      | dcT _ _ => cases h
      | dcN _ _ _ => cases h
      | tbl _ _ => cases h
      | dvs _ => cases h
      | tblC _ _ _ => cases h
      | tpz _ => cases h
section
variable {X : Cx} {W : WX} {a b e o : Expr} {ma mb mo : ME} {pos p : Pos}
theorem oe_isi {cs : List Str} (I : IsiC X.K cs) (hm : X.mg "isinstance" = none) (ha : OE X W a ma) (hb : OE X W b mb) (hg : Gl X "isinstance" := by rfl)
    (hs : starEach [a, b] X.env = (false, eval a X.env) :: starEach [b] X.env := by rfl) (hs2 : starEach [b] X.env = (false, eval b X.env) :: starEach [] X.env := by rfl) (hplain : (backTo pos (starEach [b] X.env)).any (·.1) = false := by rfl) :
    OE X W (.Call (.Name "isinstance" p) [a, b] [] pos) (eIsi cs ma mb) := by
  obtain ⟨t, q, ha⟩ := ha
  obtain ⟨u, q2, hb⟩ := hb
  refine ⟨_, pe_callB call_isi hg hm (by first | rfl | decide +kernel) (pa_cons q (pa_cons q2 pa_nil hs2) hs) (by decide) (by decide) hs hplain, fun ρ S io F σ H Q st en h => ?_⟩
  refine ha ρ S io F σ H _ st en (RG.bind h fun d S1 io1 F1 H1 v e1 n1 s1 r1 h1 => ?_)
  refine hb ρ S1 io1 F1 σ H1 _ s1 (en.nxt n1) (RG.bind h1 fun d2 S2 io2 F2 H2 v2 e2 n2 s2 r2 h2 => ?_)
  replace r1 := s2.nv (r1.mono n2.han n2.fr)
  generalize nv S2 d = d at r1 h2
  split at h2
  · rename_i t y ht
    cases hr : isT cs t y with
    | none => rw [hr] at h2; exact h2.elim
    | some r =>
      rw [hr] at h2
      have fin : Q (.bl r) H2 := h2 io2 F2 H2 (.bl r) Nxt.refl s2 rfl
      cases t with
      | b nm =>
        cases y with
        | ty n =>
          have r2 : v2 = _ := r2
          subst r2
          exact ⟨v, .ty n, _, _, r, rfl, .ty n, s2.tyx I r1 ht (fun c z => nomatch z), isB_ok hr, fin⟩
        | glo x =>
          have r2 : v2 = _ := r2
          subst r2
          have hr : (if x ∈ cs ∧ nm ∈ comTy then some false else none) = some r := hr
          split at hr
          · rename_i z
            cases hr
            exact ⟨v, .ref _, _, _, false, rfl, .own _, s2.tyx I r1 ht (fun c z => nomatch z), I.dn x z.1 nm z.2, fin⟩
          · cases hr
        | _ => cases hr
      | o c =>
        cases y with
        | ty n =>
          have r2 : v2 = _ := r2
          subst r2
          have hr : (if c ∈ cs ∧ n ∈ comTy then some false else none) = some r := hr
          split at hr
          · rename_i z
            cases hr
            exact ⟨v, .ty n, _, _, false, rfl, .ty n, s2.tyx I r1 ht (fun c' e => by cases e; exact z.1), I.up c z.1 n z.2, fin⟩
          · cases hr
        | glo x =>
          have r2 : v2 = _ := r2
          subst r2
          have hr : (if c ∈ cs ∧ x ∈ cs then some (decide (c = x)) else none) = some r := hr
          split at hr
          · rename_i z
            cases hr
            refine ⟨v, .ref _, _, _, _, rfl, .own _, s2.tyx I r1 ht (fun c' e => by cases e; exact z.1), ?_, fin⟩
            by_cases q : c = x
            · subst q
              rw [decide_eq_true rfl]
              show (if (Value.ref (He.ga X.K c) == Value.ref (He.ga X.K c)) = true then some true else _) = _
              rw [if_pos (by simp)]
            · rw [decide_eq_false q]
              exact I.ne c z.1 x z.2 q
          · cases hr
        | _ => cases hr
  · exact h2.elim
end
end Mir

namespace Mir
open PySem L2
def reprP (x : P) : List Nat := x.toD.shown.cps.toList
def pRepr : List P → Option P
  | [.lst xs] => if (P.lst xs).dat 60 && (P.lst xs).toD.showable && decide ((reprP (.lst xs)).length ≤ 100000) then some (.str (reprP (.lst xs))) else none
  | [.tup xs] => if (P.tup xs).dat 60 && (P.tup xs).toD.showable && decide ((reprP (.tup xs)).length ≤ 100000) then some (.str (reprP (.tup xs))) else none
  | _ => none
section
variable {X : Cx} {W : WX} {a b e o : Expr} {ma mb mo : ME} {pos p : Pos} {k : Nat}
mutual
theorem P.noDict : ∀ {x : P}, x.toD.hasDict = false
  | .non => rfl
  | .bl _ => rfl
  | .int _ => rfl
  | .str _ => rfl
  | .lst xs => noDictL (xs := xs)
  | .tup xs => noDictL (xs := xs)
  | .dct _ _ => rfl
  | .dcl _ _ => rfl
  | .obj _ _ _ => rfl
  | .ty _ => rfl
  | .glo _ => rfl
  | .raw _ => rfl
  | .rwp _ _ => rfl
  | .scr _ => rfl
theorem noDictL : ∀ {xs : List P}, PyData.hasDictAll (toDL xs) = false
  | [] => rfl
  | x :: xs => by
    show (x.toD.hasDict || PyData.hasDictAll (toDL xs)) = false
    rw [P.noDict, noDictL]
    rfl
end
end
def kOf : P → Option Key
  | .int i => some (.inl i)
  | .str x => some (.inr (strOf x))
  | _ => none
def keq : P → P → Bool
  | .int i, .int j => i == j
  | .str x, .str y => x == y
  | _, _ => false
def dRep (k v : P) : List P → List P → List P
  | a :: ks, b :: vs => (if keq a k then v else b) :: dRep k v ks vs
  | _, _ => []
def dPutK (k : P) (ks : List P) : List P := if ks.any fun a => keq a k then ks else ks ++ [k]
def dPutV (k v : P) (ks vs : List P) : List P := if ks.any fun a => keq a k then dRep k v ks vs else vs ++ [v]
def dGet (k : P) : List P → List P → Option P
  | a :: ks, b :: vs => if keq a k then some b else dGet k ks vs
  | _, _ => none
section
variable {K : PySem.W.Frag} {F : Hp}
theorem keq_dec {a k : P} {q kk : Key} (r : Rep K F a (kV q)) (h : kOf k = some kk) : keq a k = decide (q = kk) := by
  cases k with
  | int j =>
    cases h
    cases q with
    | inl i =>
      cases a with
      | int l =>
        have r : V.int i = V.int l := r
        cases r
        show (i == j) = _
        rw [Bool.eq_iff_iff]; simp
      | tup _ => obtain ⟨_, _, e, _⟩ := r; cases e
      | lst _ => obtain ⟨_, _, e, _⟩ := r; cases e
      | scr _ => obtain ⟨_, _, e, _⟩ := r; cases e
      | dct _ _ => obtain ⟨_, _, e, _⟩ := r; cases e
      | dcl _ _ => obtain ⟨_, _, e, _⟩ := r; cases e
      | obj _ _ _ => obtain ⟨_, _, _, e, _⟩ := r; cases e
      | rwp _ _ => obtain ⟨_, _, _, e, _⟩ := r; cases e
      | _ => cases r
    | inr x =>
      cases a with
      | int l => cases r
      | str y => rfl
      | tup _ => obtain ⟨_, _, e, _⟩ := r; cases e
      | lst _ => obtain ⟨_, _, e, _⟩ := r; cases e
      | scr _ => obtain ⟨_, _, e, _⟩ := r; cases e
      | dct _ _ => obtain ⟨_, _, e, _⟩ := r; cases e
      | dcl _ _ => obtain ⟨_, _, e, _⟩ := r; cases e
      | obj _ _ _ => obtain ⟨_, _, _, e, _⟩ := r; cases e
      | rwp _ _ => obtain ⟨_, _, _, e, _⟩ := r; cases e
      | _ => cases r
  | str y =>
    cases h
    cases q with
    | inl i =>
      cases a with
      | int l => rfl
      | tup _ => obtain ⟨_, _, e, _⟩ := r; cases e
      | lst _ => obtain ⟨_, _, e, _⟩ := r; cases e
      | scr _ => obtain ⟨_, _, e, _⟩ := r; cases e
      | dct _ _ => obtain ⟨_, _, e, _⟩ := r; cases e
      | dcl _ _ => obtain ⟨_, _, e, _⟩ := r; cases e
      | obj _ _ _ => obtain ⟨_, _, _, e, _⟩ := r; cases e
      | rwp _ _ => obtain ⟨_, _, _, e, _⟩ := r; cases e
      | _ => cases r
    | inr x =>
      cases a with
      | str z =>
        have r : V.str x = V.str (strOf z) := r
        cases r
        show (z == y) = decide (Sum.inr (strOf z) = Sum.inr (strOf y))
        rw [← strOf_beq, Bool.eq_iff_iff]; simp
      | tup _ => obtain ⟨_, _, e, _⟩ := r; cases e
      | lst _ => obtain ⟨_, _, e, _⟩ := r; cases e
      | scr _ => obtain ⟨_, _, e, _⟩ := r; cases e
      | dct _ _ => obtain ⟨_, _, e, _⟩ := r; cases e
      | dcl _ _ => obtain ⟨_, _, e, _⟩ := r; cases e
      | obj _ _ _ => obtain ⟨_, _, _, e, _⟩ := r; cases e
      | rwp _ _ => obtain ⟨_, _, _, e, _⟩ := r; cases e
      | _ => cases r
  | _ => cases h
theorem kOf_rep {k : P} {kk : Key} (h : kOf k = some kk) : Rep K F k (kV kk) := by
  cases k <;> cases h <;> rfl
theorem rep_kOf {k : P} {kk : Key} {v : V} (h : kOf k = some kk) (r : Rep K F k v) : v = kV kk := by
  cases k with
  | int i => cases h; exact r
  | str x => cases h; exact r
  | _ => cases h
theorem dGet_rep {k : P} {kk : Key} (h : kOf k = some kk) : ∀ {ks xs : List P} {kvs : List (Key × V)}, RepL K F ks (kvs.map fun q => kV q.1) → RepL K F xs (kvs.map (·.2)) →
    (∀ x, dGet k ks xs = some x → ∃ v, valV kvs kk = some v ∧ Rep K F x v) ∧ (dGet k ks xs = none → valV kvs kk = none)
  | [], xs, [], r, s => by
    have e : dGet k [] xs = none := by cases xs <;> rfl
    rw [e]
    exact And.intro (fun x z => by cases z) (fun _ => rfl)
  | [], _, _ :: _, r, _ => by cases r
  | _ :: _, _, [], ⟨_, _, e, _⟩, _ => by cases e
  | a :: ks, [], q :: kvs, r, s => by cases s
  | a :: ks, b :: xs, q :: kvs, ⟨v1, r, e, r1, r2⟩, ⟨v2, s, e2, s1, s2⟩ => by
    cases e; cases e2
    obtain ⟨i1, i2⟩ := dGet_rep h r2 s2
    have e3 : dGet k (a :: ks) (b :: xs) = if keq a k then some b else dGet k ks xs := rfl
    rw [e3, keq_dec r1 h]
    by_cases hq : q.1 = kk
    · rw [decide_eq_true hq, valV_pos hq]
      exact ⟨fun x z => by cases z; exact ⟨_, rfl, s1⟩, fun z => nomatch z⟩
    · rw [decide_eq_false hq, valV_neg hq]
      exact ⟨i1, i2⟩
end
def mergeP : List P → List P → List P → Option (List P × List P)
  | [], ks, vs => some (ks, vs)
  | .tup [k, v] :: r, ks, vs => (match kOf k with
    | some _ => mergeP r (dPutK k ks) (dPutV k v ks vs)
    | none => none)
  | _, _, _ => none
def pDictP : List P → Option P
  | [.lst xs] => (mergeP xs [] []).map fun q => .dct q.1 q.2
  | _ => none
section
variable {K : PySem.W.Frag} {io : Io} {F : Hp} {S : Sto} {H : Hp}
end
section
variable {X : Cx} {W : WX} {a b e o : Expr} {ma mb mo : ME} {pos p : Pos} {k : Nat}
end
end Mir

namespace Mir
open PySem L2
def rwpB (y z : List Nat) : List Value → Bool
  | [.str x t, .str w u] => decide (strOf y = x) && (decide (strOf z = w) && (decide (t ≠ 0) && (decide (u ≠ 0) && (decide (t ≠ u) && !(strOf y == strOf z)))))
  | _ => false
theorem rwpB_ok {y z : List Nat} : ∀ {l : List Value}, rwpB y z l = true → ∃ t u, l = [.str (strOf y) t, .str (strOf z) u] ∧ t ≠ 0 ∧ u ≠ 0 ∧ t ≠ u ∧ (strOf y == strOf z) = false
  | [.str x t, .str w u], h => by
    obtain ⟨h1, h⟩ := He.ba (show (decide (strOf y = x) && (decide (strOf z = w) && (decide (t ≠ 0) && (decide (u ≠ 0) && (decide (t ≠ u) && !(strOf y == strOf z)))))) = true from h)
    obtain ⟨h2, h⟩ := He.ba h
    obtain ⟨h3, h⟩ := He.ba h
    obtain ⟨h4, h⟩ := He.ba h
    obtain ⟨h5, h6⟩ := He.ba h
    have h1 := of_decide_eq_true h1
    have h2 := of_decide_eq_true h2
    subst h1 h2
    refine ⟨t, u, rfl, of_decide_eq_true h3, of_decide_eq_true h4, of_decide_eq_true h5, ?_⟩
    cases q : strOf y == strOf z with
    | false => rfl
    | true => rw [q] at h6; cases h6
mutual
def repK (K : PySem.W.Frag) : P → Value → Bool
  | .non, .none => true
  | .bl b, .bool c => b == c
  | .int i, .int j _ => decide (i = j)
  | .str x, .str y _ => decide (strOf x = y)
  | .ty n, .type m => decide (n = m)
  | .glo x, .ref a => decide (He.ga K x = a)
  | .tup xs, .ref a => (match K.lookup a with
    | some ⟨.type c, _, .seq its _, _⟩ => decide (c = "tuple") && (decide (its.size ≤ sizeLine) && repKs K xs its.toList)
    | _ => false)
  | .rwp y z, .ref a => (match K.lookup a with
    | some ⟨.type c, _, .seq its _, _⟩ => decide (c = "tuple") && rwpB y z its.toList
    | _ => false)
  | _, _ => false
def repKs (K : PySem.W.Frag) : List P → List Value → Bool
  | [], [] => true
  | x :: xs, u :: us => repK K x u && repKs K xs us
  | _, _ => false
end
section
variable {K : PySem.W.Frag}
mutual
theorem repK_ok : ∀ {x : P} {u : Value}, repK K x u = true → ∃ v, RelV v u ∧ ∀ F, Rep K F x v
  | .non, u, h => by
    cases u <;> first | exact ⟨.non, rfl, fun _ => rfl⟩ | cases h
  | .bl b, u, h => by
    cases u with
    | bool c =>
      have h : (b == c) = true := h
      rw [beq_iff_eq] at h
      subst h
      exact ⟨.bl b, rfl, fun _ => rfl⟩
    | _ => cases h
  | .int i, u, h => by
    cases u with
    | int j t =>
      have h : decide (i = j) = true := h
      rw [decide_eq_true_eq] at h
      subst h
      exact ⟨.int i, ⟨_, rfl⟩, fun _ => rfl⟩
    | _ => cases h
  | .str x, u, h => by
    cases u with
    | str y t =>
      have h : decide (strOf x = y) = true := h
      rw [decide_eq_true_eq] at h
      subst h
      exact ⟨.str (strOf x), ⟨_, rfl⟩, fun _ => rfl⟩
    | _ => cases h
  | .ty n, u, h => by
    cases u with
    | type m =>
      have h : decide (n = m) = true := h
      rw [decide_eq_true_eq] at h
      subst h
      exact ⟨.ty n, rfl, fun _ => rfl⟩
    | _ => cases h
  | .glo x, u, h => by
    cases u with
    | ref a =>
      have h : decide (He.ga K x = a) = true := h
      rw [decide_eq_true_eq] at h
      subst h
      exact ⟨.ref _, rfl, fun _ => rfl⟩
    | _ => cases h
  | .raw _, u, h => by cases u <;> cases h
  | .rwp y z, u, h => by
    cases u with
    | ref a =>
      have h : (match K.lookup a with
        | some ⟨.type c, _, .seq its _, _⟩ => decide (c = "tuple") && rwpB y z its.toList
        | _ => false) = true := h
      split at h
      · rename_i c od its n sl q
        obtain ⟨h1, h⟩ := He.ba h
        obtain ⟨t, u, e, q1, q2, q3, q4⟩ := rwpB_ok h
        refine ⟨.ref a, rfl, fun F => ⟨a, t, u, rfl, ⟨⟨_, n, .inr q, congrArg Value.type (of_decide_eq_true h1), ?_⟩, q1, q2, q3, q4⟩⟩⟩
        have e2 : its = #[.str (strOf y) t, .str (strOf z) u] := by rw [← Array.toArray_toList (xs := its), e]
        rw [e2]
      · cases h
    | _ => cases h
  | .tup xs, u, h => by
    cases u with
    | ref a =>
      have h : (match K.lookup a with
        | some ⟨.type c, _, .seq its _, _⟩ => decide (c = "tuple") && (decide (its.size ≤ sizeLine) && repKs K xs its.toList)
        | _ => false) = true := h
      split at h
      · rename_i c od its n sl q
        obtain ⟨h1, h⟩ := He.ba h
        obtain ⟨h2, h3⟩ := He.ba h
        obtain ⟨vs, r1, r2⟩ := repKs_ok h3
        exact ⟨.ref a, rfl, fun F => ⟨a, vs, rfl, .inr ⟨_, its, n, q, congrArg Value.type (of_decide_eq_true h1), rfl, of_decide_eq_true h2, r1⟩, r2 F⟩⟩
      · cases h
    | _ => cases h
  | .lst _, u, h => by cases u <;> cases h
  | .dct _ _, u, h => by cases u <;> cases h
  | .dcl _ _, u, h => by cases u <;> cases h
  | .obj _ _ _, u, h => by cases u <;> cases h
  | .scr _, u, h => by cases u <;> cases h
theorem repKs_ok : ∀ {xs : List P} {us : List Value}, repKs K xs us = true → ∃ vs, Vals vs us ∧ ∀ F, RepL K F xs vs
  | [], [], h => ⟨[], .nil, fun _ => .nil⟩
  | [], _ :: _, h => by cases h
  | _ :: _, [], h => by cases h
  | x :: xs, u :: us, h => by
    obtain ⟨h1, h2⟩ := He.ba h
    obtain ⟨v, r1, r2⟩ := repK_ok h1
    obtain ⟨vs, r3, r4⟩ := repKs_ok h2
    exact ⟨v :: vs, .cons r1 r3, fun F => .cons (r2 F) (r4 F)⟩
end
def gloB (K : PySem.W.Frag) (x : Str) (p : P) : Bool := match PySem.W.nsIn K mainGlobals x with
  | some (some u) => repK K p u
  | _ => false
def GV (K : PySem.W.Frag) (mg : Str → Option Value) (x : Str) (p : P) : Prop := ∃ u v, mg x = some u ∧ RelV v u ∧ ∀ F, Rep K F p v
theorem gloB_ok {h : Heap} {mg : Str → Option Value} (X : K.In h) (G : h.Ns mainGlobals mg) {x : Str} {p : P} (c : gloB K x p = true) : GV K mg x p := by
  unfold gloB at c
  split at c
  · rename_i u e
    obtain ⟨v, r, hp⟩ := repK_ok c
    exact ⟨u, v, PySem.W.mg_of X G e, r, hp⟩
  · cases c
end
section
variable {X : Cx} {W : WX} {a b c e o : Expr} {ma mb mc mo : ME} {pos p : Pos} {k : Nat}
theorem oe_gV {x : Str} {q : P} (h : GV X.K X.mg x q) (hg : Gl X x := by rfl) (hd : (x == ("__debug__" : Str)) = false := by decide) : OE X W (.Name x pos) (eC q) := by
  obtain ⟨u, v, h1, h2, h3⟩ := h
  exact oe_glob h1 h2 h3 hg hd
theorem oe_bT {x : Str} {n : String} (hm : X.mg x = none) (hv : bootBuiltins x = some (.type n) := by first | rfl | decide +kernel) (hg : Gl X x := by rfl) (hn : x ≠ "__name__" := by decide) (hd : (x == ("__debug__" : Str)) = false := by decide) : OE X W (.Name x pos) (eC (.ty n)) := oe_bltn (v := .ty n) hm hv rfl (fun _ => rfl) hg hn hd
theorem BinOk.run {K : PySem.W.Frag} {io : Io} {F : Hp} {S : Sto} {H : Hp} {r : R2} {f : P → P → Option P} {d d2 : Vl} {v v2 : V} {C D : Type} {R' : Io → Hp → C → D → Prop} {g : Vl → Sto → Res C} {Q : D → Hp → Prop} {Q1 : VK} {E : XK} (hf : BinOk K r f) (st : Sta K io F S H) (r1 : RepV K io F d v) (r2 : RepV K io F d2 v2)
    (h : RG K R' ((op2 f d d2 S).bind g) io F H Q E) (k : ∀ z F' H' u, Nxt io F H io F' H' → Sta K io F' S H' → Rep K F' z u → RG K R' (g (.p z) S) io F' H' Q E → Q1 u H') : r v v2 H Q1 := by
  unfold op2 at h
  cases e1 : rd S d with
  | none => rw [e1] at h; exact h.elim
  | some x =>
    cases e2 : rd S d2 with
    | none => rw [e1, e2] at h; exact h.elim
    | some y =>
      rw [e1, e2] at h
      dsimp only at h
      cases e3 : f x y with
      | none => rw [e3] at h; exact h.elim
      | some z =>
        rw [e3] at h
        exact hf io F S H x y v v2 z Q1 st (st.rd r1 e1) (st.rd r2 e2) e3 fun F' H' u n s rp => k z F' H' u n s rp (RG.step n h)
abbrev bLt : P → P → Option P := pIB fun i j => decide (i < j)
abbrev bLe : P → P → Option P := pIB fun i j => decide (i ≤ j)
def sParG (n : Nat) (m : MA) (r : MGs) : MS := fun ρ S => (m ρ S).go ρ fun ds S1 => if ds.length = n ∧ n ≤ 100000 then ((r ds ρ S1).nox).go ρ fun ρ1 S2 => .ok (.nx ρ1) S2 else .bad
theorem os_parG {ts es : List Expr} {js : List Nat} {mas : MA} {r : MGs} {kt k2 n : Nat} {pt pt2 : Pos} (hc : X.calm = true) (ha : OA X W es mas) (hg : OGs X W0 ts js r) (hn : (assignEach ts X.env).length = n := by rfl) (hst : (assignEach ts X.env).findIdx? (·.1) = none := by rfl)
    (hs : swapsWithSole [.Tuple ts kt pt] (.Tuple es k2 pt2) pos.line X.env = pure false := by rfl) (hw : swappedStores [.Tuple ts kt pt] (.Tuple es k2 pt2) X.env = pure none := by rfl)
    (h1 : (assignEach [.Tuple ts kt pt] X.env).map (·.2) = [assign (.Tuple ts kt pt) X.env] := by rfl) : OS X W (.Assign [.Tuple ts kt pt] (.Tuple es k2 pt2) pos) (sParG n mas r) := by
  obtain ⟨t, p, ha⟩ := ha
  obtain ⟨u, q, hg⟩ := hg
  refine ⟨_, ps_asg (pe_tup p) (pg_tup hc q hn hst) hs hw h1, fun ρ S io F σ H D st en h => ?_⟩
  refine ha ρ S io F σ H _ st en (RS.go en h fun ds S1 io1 F1 H1 vs e1 n1 s1 r1 h2 => ?_)
  by_cases hq : ds.length = n ∧ n ≤ 100000
  · rw [if_pos hq] at h2
    have hl : vs.length = n := by rw [r1.length]; exact hq.1
    refine ⟨by rw [hl]; exact sz5 hq.2, fun p hp => ⟨p, vs, rfl, SqT.of upd_same, hl, ?_⟩⟩
    have s2 := s1.side (o := .tup vs) (s1.notIn hp) (Same.free s1.sub hp)
    have n2 : Nxt io1 F1 H1 io1 F1 (upd H1 p (.tup vs)) := Nxt.side hp
    refine hg ds vs ρ S1 io1 F1 σ _ _ s2 (en.nxt (n1.trans n2)) (r1.mono n2.han n2.fr) (RS.nox (RS.step n2 h2) fun ρ1 S2 io2 F2 H2 σ2 e2 n3 s3 r3 h3 => ?_)
    exact h3 io2 F2 H2 σ2 Nxt.refl s3 r3.1
  · rw [if_neg hq] at h2; exact h2.elim
def sPar3 (i j l : Nat) (a : MA) : MS := fun ρ S => (a ρ S).go ρ fun ds S1 => match ds with
  | [d, d2, d3] => .ok (.nx (((ρ.set i (some d)).set j (some d2)).set l (some d3))) S1
  | _ => .bad
theorem os_par3 {i j l : Nat} {x y z : Str} {mas : MA} {px py pz pt : Pos} {kt k2 pt2} (hc : X.calm = true) (hN : X.N.Nodup) (ha : OA X W [a, b, c] mas) (hi : X.N[i]? = some x := by rfl) (hj : X.N[j]? = some y := by rfl) (hl : X.N[l]? = some z := by rfl) (hij : i ≠ j := by decide) (hil : i ≠ l := by decide) (hjl : j ≠ l := by decide)
    (hx : X.env.scope.names.lookup x = some .local := by rfl) (hy : X.env.scope.names.lookup y = some .local := by rfl) (hz : X.env.scope.names.lookup z = some .local := by rfl)
    (hw : swappedStores [.Tuple [.Name x px, .Name y py, .Name z pz] kt pt] (.Tuple [a, b, c] k2 pt2) X.env = pure (some [x, y, z]) := by rfl)
    (hs : swapsWithSole [.Tuple [.Name x px, .Name y py, .Name z pz] kt pt] (.Tuple [a, b, c] k2 pt2) pos.line X.env = pure false := by rfl) :
    OS X W (.Assign [.Tuple [.Name x px, .Name y py, .Name z pz] kt pt] (.Tuple [a, b, c] k2 pt2) pos) (sPar3 i j l mas) := by
  obtain ⟨t, p, ha⟩ := ha
  refine ⟨_, ps_par3 hc hN hi hj hl hij hil hjl hx hy hz p hw hs, fun ρ S io F σ H D s en h => ?_⟩
  refine ha ρ S io F σ H _ s en (RS.go en h fun ds S1 io1 F1 H1 vs e1 n1 s1 r1 h1 => ?_)
  match ds, r1, h1 with
  | [d, d2, d3], ⟨v, w, e1, ra, ⟨v2, w2, e2, rb, ⟨v3, w3, e3, rc, e4⟩⟩⟩, h1 =>
    have e4 : w3 = [] := e4
    subst e4; subst e3; subst e2; subst e1
    exact ⟨v, v2, v3, rfl, h1 io1 F1 H1 _ Nxt.refl s1 ((((en.nxt n1).set ra i).set rb j).set rc l)⟩
  | [], _, h1 => exact h1.elim
  | [_], _, h1 => exact h1.elim
  | [_, _], _, h1 => exact h1.elim
  | _ :: _ :: _ :: _ :: _, _, h1 => exact h1.elim
end
end Mir

namespace Mir
open PySem L2
section
variable {K : PySem.W.Frag} {Q : VK} {E : XK}
end
section
variable {X : Cx} {W : WX} {elt tg iter : Expr} {ifs : List Expr} {scope : Scope} {own : List (Str × Nat)} {pos : Pos} {it : MI} {js : List Nat} {g : MG} {t : MT} {e : ME}
end
theorem BinOk.or {K : PySem.W.Frag} {r r' : R2} {f g : P → P → Option P} (h : BinOk K r f) (h' : BinOk K r' g) : BinOk K (fun x y H Q => r x y H Q ∨ r' x y H Q) (fun x y => match f x y with
  | some z => some z
  | none => g x y) := by
  intro io F S H x y v w z Q st rx ry e k
  cases q : f x y with
  | some z' =>
    dsimp only at e
    rw [q] at e
    have e : z' = z := Option.some.inj e
    subst e
    exact .inl (h io F S H x y v w z' Q st rx ry q k)
  | none =>
    dsimp only at e
    rw [q] at e
    exact .inr (h' io F S H x y v w z Q st rx ry e k)
def pInD (y z : P) : Option P := match z with
  | .lst xs => if y.dat 60 && (P.lst xs).dat 60 then some (.bl (inP y xs)) else none
  | _ => none
def pNotInD (y z : P) : Option P := match z with
  | .lst xs => if y.dat 60 && (P.lst xs).dat 60 then some (.bl (!inP y xs)) else none
  | _ => none
theorem any_toD {y : P} {n : Nat} (hy : y.dat n = true) {m : Nat} : ∀ {xs : List P}, datL xs m = true → ((toDL xs).any fun z => PyData.eqv z y.toD) = inP y xs
  | [], _ => rfl
  | x :: xs, h => by
    have h : (x.dat m && datL xs m) = true := h
    rw [Bool.and_eq_true] at h
    show (PyData.eqv x.toD y.toD || (toDL xs).any fun z => PyData.eqv z y.toD) = (x.eqv y || inP y xs)
    rw [P.eqD h.1 hy, any_toD hy h.2]
theorem ok_inD {K : PySem.W.Frag} : BinOk K (rInD K) pInD := by
  intro io F S H x y v w z Q st rx ry e k
  unfold pInD at e
  split at e
  · rename_i xs
    split at e
    · rename_i hd
      rw [Bool.and_eq_true] at hd
      cases e
      refine ⟨x.toD, toDL xs, Rep.dp hd.1 (rx.now st.sub), Rep.dp (x := .lst xs) hd.2 (ry.now st.sub), P.shp (by decide) hd.1, P.shp (x := .lst xs) (by decide) hd.2, ?_⟩
      rw [any_toD (m := 59) hd.1 hd.2]
      exact k F H _ Nxt.refl st rfl
    · cases e
  · cases e
def pIn2 (x y : P) : Option P := match pIn x y with
  | some z => some z
  | none => pInD x y
def pNotIn2 (x y : P) : Option P := match pNotIn x y with
  | some z => some z
  | none => pNotInD x y
section
variable {X : Cx} {W : WX} {a b : Expr} {ma mb : ME} {pos : Pos} {k : Nat}
theorem room65 {A : Around} (hr : Room k A) : A.units + 65 < cLine := by have := hr.un; omega
theorem ot_in2 (hr : Room k X.A) (ha : OE X W a ma) (hb : OE X W b mb) (hm : behindInMarks .In b = false := by rfl) : OT X W (.Compare a [.In] [b] pos) (tVal (eBin pIn2 ma mb)) := ot_cmp (OpR.or (OpR.or op_in_seq op_in_str) (op_inD (room65 hr))) (BinOk.or ok_in ok_inD) ha hb hm
end
end Mir

namespace Mir
open PySem L2
def lcGo2 (g : MG) (t : MT) (it1 : MI) (vs1 : List Nat) (g1 : MG) (t1 : MT) (e : ME) (ρ : En) : List P → Sto → Res (List P)
  | [], S => .ok [] S
  | x :: xs, S => (g (.p x) ρ S).nox.bind fun ρ1 S1 => (t ρ1 S1).nox.bind fun b S2 => match b with
    | true => (it1 ρ1 S2).nox.bind fun zs S3 => if zs.length ≤ 4000 then (lcGo g1 t1 e (wipeE ρ1 vs1) zs S3).bind fun us S4 => (lcGo2 g t it1 vs1 g1 t1 e ρ xs S4).bind fun ws S5 => .ok (us ++ ws) S5 else .bad
    | false => lcGo2 g t it1 vs1 g1 t1 e ρ xs S2
def eLc2 (it : MI) (vs : List Nat) (g : MG) (t : MT) (it1 : MI) (vs1 : List Nat) (g1 : MG) (t1 : MT) (e : ME) : ME := fun ρ S => (it ρ S).bind fun xs S1 => if xs.length ≤ 4000 then (lcGo2 g t it1 vs1 g1 t1 e (wipeE ρ vs) xs S1).bind fun ys S2 => .ok (.p (.lst ys)) S2 else .bad
section
variable {K : PySem.W.Frag} {Q : VK} {E : XK}
end
def tI1 (K : PySem.W.Frag) (m : MI) : TI := fun σ H R => ∃ ρ S io F, Sta K io F S H ∧ Mir.Env K io F ρ σ ∧ RG K (RepJ K) (m ρ S) io F H R (fun c d H' => False)
theorem OI.pi {X : Cx} {tg iter : Expr} {m : MI} (h : OI X W0 tg iter m) : PI X tg iter (tI1 X.K m) := by
  obtain ⟨t, p, h⟩ := h
  exact ⟨fun pins s σ H R I ⟨ρ, S, io, F, st, en, q⟩ => p.run pins s σ H R I (h ρ S io F σ H R st en q)⟩
section
variable {X : Cx} {W : WX} {elt tg iter tg1 iter1 : Expr} {ifs ifs1 : List Expr} {scope : Scope} {own : List (Str × Nat)} {pos : Pos} {it it1 : MI} {js js1 vs1 : List Nat} {g g1 : MG} {t t1 : MT} {e : ME}
end
end Mir

namespace Mir
open PySem L2
section
variable {X : Cx} {W : WX} {x : Str} {params : Arguments} {ps ks : List Str} {k j : Nat} {m : MF} {pm : List Nat} {kws : List Keyword} {mks : MA} {p pos : Pos}
end
def eRgL (m : ME) : ME := fun ρ S => (m ρ S).bind fun d S1 => match d with
  | .p (.int j) => if 0 ≤ j ∧ j ≤ 100000 then .ok (.p (.lst (rangeP 0 j.toNat))) S1 else .bad
  | _ => .bad
section
variable {X : Cx} {W : WX} {a b : Expr} {ma mb : ME} {p p2 pos pos2 : Pos}
end
def pIs : P → P → Option P
  | .bl a, .bl b => some (.bl (decide (a = b)))
  | _, _ => none
def pIsNot : P → P → Option P
  | .bl a, .bl b => some (.bl (!decide (a = b)))
  | _, _ => none
theorem ok_is {K : PySem.W.Frag} : BinOk K rIsB pIs := by
  intro io F S H x y v w z Q st rx ry e k
  cases x <;> cases y <;> first
    | (cases e; done)
    | skip
  rename_i a b
  cases e
  have rx : v = .bl a := rx
  have ry : w = .bl b := ry
  subst rx ry
  exact ⟨a, b, rfl, rfl, k F H _ Nxt.refl st rfl⟩
theorem ok_isNot {K : PySem.W.Frag} : BinOk K rNotB pIsNot := by
  intro io F S H x y v w z Q st rx ry e k
  cases x <;> cases y <;> first
    | (cases e; done)
    | skip
  rename_i a b
  cases e
  have rx : v = .bl a := rx
  have ry : w = .bl b := ry
  subst rx ry
  exact ⟨a, b, rfl, rfl, k F H _ Nxt.refl st rfl⟩
section
variable {X : Cx} {W : WX} {a b : Expr} {ma mb : ME} {pos : Pos}
theorem oe_is (ha : OE X W a ma) (hb : OE X W b mb) : OE X W (.Compare a [.Is] [b] pos) (eBin pIs ma mb) := oe_cmp op_isBl ok_is ha hb (nomark _)
theorem ot_isNot (ha : OE X W a ma) (hb : OE X W b mb) : OT X W (.Compare a [.IsNot] [b] pos) (tVal (eBin pIsNot ma mb)) := ot_cmp op_notBl ok_isNot ha hb (nomark _)
end
def aStar (m : ME) (r : MA) : MA := fun ρ S => (m ρ S).bind fun d S1 => match rd S1 d with
  | some (.lst xs) => (r ρ S1).bind fun ys S2 => .ok (xs.map Vl.p ++ ys) S2
  | some (.tup xs) => (r ρ S1).bind fun ys S2 => .ok (xs.map Vl.p ++ ys) S2
  | _ => .bad
section
variable {X : Cx} {W : WX} {a : Expr} {es : List Expr} {ma : ME} {mas : MA} {p : Pos}
theorem oa_star (ha : OE X W a ma) (hr : OA X W es mas) (hs : starEach (.Starred a p :: es) X.env = (true, eval a X.env) :: starEach es X.env := by rfl) : OA X W (.Starred a p :: es) (aStar ma mas) := by
  obtain ⟨t, q, ha⟩ := ha
  obtain ⟨u, q2, hr⟩ := hr
  refine ⟨_, StX.pa_star q q2 hs, fun ρ S io F σ H Q st en h => ?_⟩
  refine ha ρ S io F σ H _ st en (RG.bind h fun d S1 io1 F1 H1 v e1 n1 s1 r1 h1 => ?_)
  cases e : rd S1 d with
  | none => rw [e] at h1; exact h1.elim
  | some x =>
    rw [e] at h1
    have rr := s1.rd r1 e
    cases x with
    | lst xs =>
      obtain ⟨a, vs, rfl, hH, rl⟩ := rr
      refine ⟨a, vs, rfl, .inr (SqL.of hH), ?_⟩
      refine hr ρ S1 io1 F1 σ H1 _ s1 (en.nxt n1) (RG.bind h1 fun d2 S2 io2 F2 H2 v2 e2 n2 s2 r2 h2 => ?_)
      exact RG.val (R := RepAs X.K) (d := xs.map Vl.p ++ d2) s2 ((RepVs.pure.mpr (RepL.mono n2.fr rl)).append r2) h2
    | tup xs =>
      obtain ⟨a, vs, rfl, hT, rl⟩ := rr
      refine ⟨a, vs, rfl, .inl (sqt_mono s1.sub hT), ?_⟩
      refine hr ρ S1 io1 F1 σ H1 _ s1 (en.nxt n1) (RG.bind h1 fun d2 S2 io2 F2 H2 v2 e2 n2 s2 r2 h2 => ?_)
      exact RG.val (R := RepAs X.K) (d := xs.map Vl.p ++ d2) s2 ((RepVs.pure.mpr (RepL.mono n2.fr rl)).append r2) h2
    | _ => exact h1.elim
end
def fmt1 : Vl → Option (List Nat)
  | .p (.str x) => if x.length ≤ 100000 then some x else none
  | .p (.int i) => if i.natAbs.log2 < 1920 then some (Str.ofString (toString i)).cps.toList else none
  | _ => none
abbrev MJ := List Nat → En → Sto → Res (List Nat)
def jNil : MJ := fun acc _ S => .ok acc S
def jTxt (x : List Nat) (r : MJ) : MJ := fun acc ρ S => if acc.length + x.length ≤ 100000 then r (acc ++ x) ρ S else .bad
def jFmt (m : ME) (r : MJ) : MJ := fun acc ρ S => (m ρ S).bind fun d S1 => match fmt1 d with
  | some x => if acc.length + x.length ≤ 100000 then r (acc ++ x) ρ S1 else .bad
  | none => .bad
def eJoin (r : MJ) : ME := fun ρ S => (r [] ρ S).bind fun x S1 => .ok (.p (.str x)) S1
def RepJs : Io → Hp → List Nat → Str → Prop := fun _ _ x y => y = strOf x
def OJ (X : Cx) (W : WX) (es : List Expr) (m : MJ) : Prop := ∃ ts, PJ X es ts ∧ ∀ (acc : List Nat) (ρ : En) (S : Sto) (io : Io) (F : Hp) (σ : St) (H : Hp) (Q : Str → Hp → Prop), Sta X.K io F S H → Mir.Env X.K io F ρ σ →
  RG X.K RepJs (m acc ρ S) io F H Q (fun c d H' => W c d σ H') → tJs ts (strOf acc) σ H Q
section
variable {X : Cx} {W : WX} {a : Expr} {es : List Expr} {ma : ME} {mj : MJ} {p pos : Pos}
theorem oj_nil : OJ X W [] jNil := ⟨[], .nil, fun acc ρ S io F σ H Q st en h => RG.val (R := RepJs) (d := acc) (v := strOf acc) st rfl h⟩
theorem oj_txt {x : Str} {j : Nat} {xs : List Nat} (hr : OJ X W es mj) (h : x.cps.toList = xs := by rfl) : OJ X W (.Constant (.str x) j p :: es) (jTxt xs mj) := by
  obtain ⟨ts, q, hr⟩ := hr
  refine ⟨_, .cons pe_str q, fun acc ρ S io F σ H Q st en hw => ?_⟩
  have e : x = strOf xs := by rw [← h, strOf_toList]
  subst e
  have hw : RG X.K RepJs (if acc.length + xs.length ≤ 100000 then mj (acc ++ xs) ρ S else .bad) io F H Q _ := hw
  by_cases hl : acc.length + xs.length ≤ 100000
  · rw [if_pos hl] at hw
    refine ⟨strOf xs, rfl, ?_, ?_⟩
    · rw [strOf_append, strOf_length, List.length_append]
      exact sz5 hl
    · rw [strOf_append]
      exact hr (acc ++ xs) ρ S io F σ H Q st en hw
  · rw [if_neg hl] at hw
    exact hw.elim
theorem oj_fmt (ha : OE X W a ma) (hr : OJ X W es mj) : OJ X W (.FormattedValue a (-1) none p :: es) (jFmt ma mj) := by
  obtain ⟨t, q1, ha⟩ := ha
  obtain ⟨ts, q, hr⟩ := hr
  refine ⟨_, .cons (pe_fmt q1) q, fun acc ρ S io F σ H Q st en hw => ?_⟩
  refine ha ρ S io F σ H _ st en (RG.bind (R := RepA X.K) hw fun d S1 io1 F1 H1 v e1 n1 s1 r1 h1 => ?_)
  cases hf : fmt1 d with
  | none => rw [hf] at h1; exact h1.elim
  | some x =>
    rw [hf] at h1
    dsimp only at h1
    by_cases hl : acc.length + x.length ≤ 100000
    · rw [if_pos hl] at h1
      have fin : (strOf acc ++ strOf x).length ≤ sizeLine ∧ tJs ts (strOf acc ++ strOf x) σ H1 Q := by
        refine ⟨?_, ?_⟩
        · rw [strOf_append, strOf_length, List.length_append]
          exact sz5 hl
        · rw [strOf_append]
          exact hr (acc ++ x) ρ S1 io1 F1 σ H1 Q s1 (en.nxt n1) h1
      cases d with
      | c k => cases hf
      | p y =>
        cases y with
        | str y =>
          have r1 : v = .str (strOf y) := r1
          subst r1
          unfold fmt1 at hf
          dsimp only at hf
          split at hf
          · rename_i hy
            cases hf
            exact .inl ⟨strOf x, rfl, by rw [strOf_length]; exact sz5 hy, strOf x, rfl, fin.1, fin.2⟩
          · cases hf
        | int i =>
          have r1 : v = .int i := r1
          subst r1
          unfold fmt1 at hf
          dsimp only at hf
          split at hf
          · rename_i hy
            have ex : (Str.ofString (toString i)).cps.toList = x := Option.some.inj hf
            subst ex
            rw [strOf_toList] at fin
            exact .inr ⟨i, rfl, hy, _, rfl, fin.1, fin.2⟩
          · cases hf
        | _ => cases hf
    · rw [if_neg hl] at h1
      exact h1.elim
theorem oe_fstr {v1 v2 : Expr} (h : OJ X W (v1 :: v2 :: es) mj) : OE X W (.JoinedStr (v1 :: v2 :: es) pos) (eJoin mj) := by
  obtain ⟨ts, q, h⟩ := h
  refine ⟨_, pe_joined q, fun ρ S io F σ H Q st en hw => ?_⟩
  refine h [] ρ S io F σ H _ st en (RG.bind (R := RepJs) hw fun x S1 io1 F1 H1 v e1 n1 s1 r1 h1 => ?_)
  have r1 : v = strOf x := r1
  subst r1
  exact RG.val (R := RepA X.K) (d := .p (.str x)) s1 rfl h1
end
end Mir

namespace Mir
open PySem L2
section
variable {K : PySem.W.Frag} {io : Io} {F H : Hp} {S : Sto}
theorem Sta.keep (st : Sta K io F S H) : Sta K (io ++ [none]) F (S ++ [.res]) H ∧ Nxt io F H (io ++ [none]) F H := by
  have hi : ∀ (k : Nat) (a : Addr), io[k]? = some (some a) → (io ++ [none])[k]? = some (some a) := fun k a e => by
    rw [List.getElem?_append_left (List.getElem?_eq_some_iff.mp e).1]
    exact e
  have back : ∀ (k : Nat) (a : Addr), (io ++ [none])[k]? = some (some a) → io[k]? = some (some a) := fun k a e => by
    rw [List.getElem?_append] at e
    split at e
    · exact e
    · rename_i hk
      have hk2 : k - io.length = 0 := by
        have := (List.getElem?_eq_some_iff.mp e).1
        simp at this
        omega
      rw [hk2] at e
      cases e
  refine ⟨⟨by rw [List.length_append, List.length_append, st.len]; rfl, fun j k a h1 h2 => st.inj j k a (back _ _ h1) (back _ _ h2), st.sub, fun k a e => st.trk k a (back _ _ e), fun k d e => ?_⟩, ⟨hi, fun _ _ h => h, fun _ _ h _ => h, fun k a e => .inl (back _ _ e), fun _ h => h, fun _ h => .inl h⟩⟩
  rw [List.getElem?_append] at e
  split at e
  · exact (st.cel k d e).mono hi (fun _ _ z => z) (fun _ _ hn => hn) fun _ _ _ hu => hu
  · rename_i hk
    have hk2 : k - S.length = 0 := by
      have := (List.getElem?_eq_some_iff.mp e).1
      simp at this
      omega
    rw [hk2] at e
    have e' : Cell.res = d := by simpa using e
    subst e'
    have : k = io.length := by have := st.len; omega
    subst this
    show (io ++ [none])[io.length]? = some none
    simp
theorem Sta.keeps (st : Sta K io F S H) : ∀ n : Nat, Sta K (io ++ List.replicate n none) F (S ++ List.replicate n .res) H ∧ Nxt io F H (io ++ List.replicate n none) F H
  | 0 => by
    rw [List.replicate_zero, List.replicate_zero, List.append_nil, List.append_nil]
    exact ⟨st, Nxt.refl⟩
  | n + 1 => by
    obtain ⟨s, nx⟩ := Sta.keeps st n
    obtain ⟨s2, n2⟩ := s.keep
    rw [List.append_assoc, List.append_assoc, ← List.replicate_succ', ← List.replicate_succ'] at s2
    rw [List.append_assoc, ← List.replicate_succ'] at n2
    exact ⟨s2, nx.trans n2⟩
theorem Sta.fill (st : Sta K io F S H) {j : Nat} {p : Addr} {o : HO} {c : Cell} (hj : S[j]? = some .res) (hp : H p = none) (hc : CellAt K (io.set j (some p)) F (upd H p o) j c) :
    Sta K (io.set j (some p)) F (S.set j c) (upd H p o) ∧ Nxt io F H (io.set j (some p)) F (upd H p o) := by
  have hr : io[j]? = some none := st.cel j _ hj
  have hjl : j < io.length := (List.getElem?_eq_some_iff.mp hr).1
  have hF : F p = none := Same.free st.sub hp
  have hi : ∀ (k : Nat) (a : Addr), io[k]? = some (some a) → (io.set j (some p))[k]? = some (some a) := fun k a e => by
    by_cases q : k = j
    · subst q; rw [hr] at e; cases e
    · rw [List.getElem?_set_ne (Ne.symm q)]; exact e
  have back : ∀ (k : Nat) (a : Addr), (io.set j (some p))[k]? = some (some a) → io[k]? = some (some a) ∨ (k = j ∧ a = p) := fun k a e => by
    by_cases q : k = j
    · subst q
      rw [List.getElem?_set_self hjl] at e
      cases e
      exact .inr ⟨rfl, rfl⟩
    · rw [List.getElem?_set_ne (Ne.symm q)] at e
      exact .inl e
  refine ⟨⟨by rw [List.length_set, List.length_set, st.len], fun i k a h1 h2 => ?_, fun b u e => ?_, fun k a e z => ?_, fun k d e => ?_⟩, ⟨hi, fun _ _ h => h, fun b u e _ => ?_, fun k a e => ?_, fun b e => ?_, fun b e => .inl e⟩⟩
  · rcases back i a h1 with z | ⟨rfl, z⟩
    · rcases back k a h2 with y | ⟨rfl, y⟩
      · exact st.inj i k a z y
      · subst y; exact absurd hp (st.trk i _ z)
    · rcases back k a h2 with y | ⟨rfl, y⟩
      · subst z; exact absurd hp (st.trk k _ y)
      · rfl
  · rw [upd_ne (ne_of_none (st.sub _ _ e) hp)]
    exact st.sub _ _ e
  · rcases back k a e with y | ⟨rfl, y⟩
    · have q := st.trk k a y
      by_cases hb : a = p
      · subst hb; exact q hp
      · rw [upd_ne hb] at z; exact q z
    · subst y; rw [upd_same] at z; cases z
  · by_cases q : k = j
    · subst q
      rw [List.getElem?_set_self (by rw [← st.len]; exact hjl)] at e
      cases e
      exact hc
    · rw [List.getElem?_set_ne (Ne.symm q)] at e
      have h := st.cel k d e
      by_cases hd : (∃ x, d = .fz x) ∨ d = .res ∨ (∃ xs, d = .tup xs) ∨ ∃ xs, d = .dvs xs ∨ d = .tpz xs
      · rcases hd with ⟨x, rfl⟩ | rfl | ⟨xs, rfl⟩ | ⟨xs, rfl | rfl⟩
        · obtain ⟨a, h1, h2⟩ := h
          exact ⟨a, hi _ _ h1, h2⟩
        · show (io.set j (some p))[k]? = some none
          rw [List.getElem?_set_ne (Ne.symm q)]
          exact h
        · obtain ⟨a, vs, h1, h2, h3⟩ := h
          exact ⟨a, vs, hi _ _ h1, h2, h3⟩
        · obtain ⟨a, o, η, es, h1, h2, h3⟩ := h
          exact ⟨a, o, η, es, hi _ _ h1, h2, h3⟩
        · obtain ⟨a, vs, o, h1, h2, h3, h4, h5⟩ := h
          exact ⟨a, vs, o, hi _ _ h1, h2, h3, h4, h5⟩
      · obtain ⟨a, ob, ha, hn, hh⟩ := h.there (fun x z => hd (.inl ⟨x, z⟩)) (fun z => hd (.inr (.inl z))) (fun xs z => hd (.inr (.inr (.inl ⟨xs, z⟩)))) (fun xs => ⟨fun z => hd (.inr (.inr (.inr ⟨xs, .inl z⟩))), fun z => hd (.inr (.inr (.inr ⟨xs, .inr z⟩)))⟩)
        have nap : a ≠ p := ne_of_none hh hp
        refine h.mono hi (fun _ _ z => z) (fun _ _ hn => hn) (fun b u hb hu => ?_) (fun z => by rw [List.getElem?_set_ne (Ne.symm q)]; exact z)
        rw [ha] at hb; cases hb
        rw [upd_ne nap]; exact hu
  · rw [upd_ne (ne_of_none e hp)]
    exact e
  · rcases back k a e with z | ⟨_, rfl⟩
    · exact .inl z
    · exact .inr hp
  · by_cases hb : b = p
    · subst hb; exact hp
    · rw [upd_ne hb] at e; exact e
theorem Sta.layT (st : Sta K io F S H) {p : Addr} {vs : List V} {xs : List P} (hp : H p = none) (r : RepL K F xs vs) :
    Sta K (io ++ [some p]) (upd F p (.tup vs)) (S ++ [.tup xs]) (upd H p (.tup vs)) ∧ Nxt io F H (io ++ [some p]) (upd F p (.tup vs)) (upd H p (.tup vs)) := by
  obtain ⟨s1, n1⟩ := st.froze (o := .tup vs) hp
  have np := st.notIn hp
  have hi : ∀ (k : Nat) (a : Addr), io[k]? = some (some a) → (io ++ [some p])[k]? = some (some a) := fun k a e => by
    rw [List.getElem?_append_left (List.getElem?_eq_some_iff.mp e).1]
    exact e
  have back : ∀ (k : Nat) (a : Addr), (io ++ [some p])[k]? = some (some a) → io[k]? = some (some a) ∨ (k = io.length ∧ a = p) := fun k a e => by
    rw [List.getElem?_append] at e
    split at e
    · exact .inl e
    · rename_i hk
      have hk2 : k - io.length = 0 := by
        have := (List.getElem?_eq_some_iff.mp e).1
        simp at this
        omega
      rw [hk2] at e
      have e' : p = a := by simpa using e
      exact .inr ⟨by omega, e'.symm⟩
  refine ⟨⟨by rw [List.length_append, List.length_append, st.len]; rfl, fun j k a h1 h2 => ?_, s1.sub, fun k a e z => ?_, fun k d e => ?_⟩, ⟨hi, n1.fr, n1.out, fun k a e => ?_, n1.stay, n1.nf⟩⟩
  · rcases back j a h1 with z | ⟨rfl, z⟩
    · rcases back k a h2 with y | ⟨rfl, y⟩
      · exact st.inj j k a z y
      · subst y; exact absurd z (np j)
    · rcases back k a h2 with y | ⟨rfl, y⟩
      · subst z; exact absurd y (np k)
      · rfl
  · rcases back k a e with y | ⟨rfl, y⟩
    · exact s1.trk k a y z
    · subst y; rw [upd_same] at z; cases z
  · rw [List.getElem?_append] at e
    split at e
    · exact (s1.cel k d e).mono hi (fun _ _ z => z) (fun _ _ hn => hn) fun _ _ _ hu => hu
    · rename_i hk
      have hk2 : k - S.length = 0 := by
        have := (List.getElem?_eq_some_iff.mp e).1
        simp at this
        omega
      rw [hk2] at e
      have e' : Cell.tup xs = d := by simpa using e
      subst e'
      have : k = io.length := by have := st.len; omega
      subst this
      exact ⟨p, vs, by simp, upd_same, RepL.mono n1.fr r⟩
  · rcases back k a e with z | ⟨_, rfl⟩
    · exact .inl z
    · exact .inr hp
end
def eTupT (a : MA) : ME := fun ρ S => (a ρ S).bind fun xs S1 => (frzs xs S1).bind fun ys S2 => if ys.length ≤ 100000 then .ok (.c S2.length) (S2 ++ [.tup ys]) else .bad
section
variable {X : Cx} {W : WX} {pos : Pos} {es : List Expr} {mas : MA}
theorem oe_tupT {k : Nat} (h : OA X W es mas) : OE X W (.Tuple es k pos) (eTupT mas) := by
  obtain ⟨t, p, h⟩ := h
  refine ⟨_, pe_tup p, fun ρ S io F σ H Q st en hw => ?_⟩
  refine h ρ S io F σ H _ st en (RG.bind hw fun d S1 io1 F1 H1 v e1 n1 s1 r1 h1 => ?_)
  obtain ⟨xs, S2, F2, n2, s2, rp, h2⟩ := s1.frzs r1 h1
  have hlen := rp.length
  by_cases hz : xs.length ≤ 100000
  · rw [if_pos hz] at h2
    refine ⟨by rw [hlen]; exact sz5 hz, fun q hq => ?_⟩
    obtain ⟨s3, n3⟩ := s2.layT hq rp
    have hi : (io1 ++ [some q])[S2.length]? = some (some q) := by rw [← s2.len]; simp
    exact h2 _ _ _ (.ref q) n3 s3 ⟨q, hi, rfl⟩
  · rw [if_neg hz] at h2
    exact h2.elim
end
def eLstR (i : Nat) (o : ME) : ME := fun ρ S => (o ρ S).bind fun d S1 => match d with
  | .c k => (match S1[k - i]? with
    | some .res => .ok (.c (k - i)) (S1.set (k - i) (.lst []))
    | _ => .bad)
  | _ => .bad
def eDctR (i : Nat) (o : ME) : ME := fun ρ S => (o ρ S).bind fun d S1 => match d with
  | .c k => (match S1[k - i]? with
    | some .res => .ok (.c (k - i)) (S1.set (k - i) (.dcT [] []))
    | _ => .bad)
  | _ => .bad
def Idle (m : ME) : Prop := ∀ ρ S, m ρ S = .bad ∨ ∃ d, m ρ S = .ok d S
theorem idle_var (i : Nat) : Idle (eVar i) := fun ρ S => by
  unfold eVar
  split
  · exact .inr ⟨_, rfl⟩
  · exact .inl rfl
section
variable {X : Cx} {W : WX} {pos : Pos} {mo : ME}
theorem oe_lstR (i : Nat) (hm : Idle mo) : OE X W (.List [] pos) (eLstR i mo) := by
  refine ⟨_, pe_lst pa_nil, fun ρ S io F σ H Q st en hw => ?_⟩
  rcases hm ρ S with e | ⟨d, e⟩
  · unfold eLstR at hw; rw [e] at hw; exact hw.elim
  · unfold eLstR at hw
    rw [e] at hw
    cases d with
    | p x => exact hw.elim
    | c k =>
      have hw : RG X.K (RepA X.K) (match S[k - i]? with
        | some .res => .ok (.c (k - i)) (S.set (k - i) (.lst []))
        | _ => .bad) io F H Q _ := hw
      split at hw
      · rename_i hk
        refine ⟨Nat.zero_le _, fun q hq => ?_⟩
        have hj : k - i < io.length := by rw [st.len]; exact (List.getElem?_eq_some_iff.mp hk).1
        have hi : (io.set (k - i) (some q))[k - i]? = some (some q) := List.getElem?_set_self hj
        obtain ⟨s3, n3⟩ := st.fill (o := .lst []) (c := .lst []) hk hq ⟨q, [], hi, Same.free st.sub hq, upd_same, .nil⟩
        exact hw _ _ _ (.ref q) n3 s3 ⟨q, hi, rfl⟩
      · exact hw.elim
theorem oe_dctR (i : Nat) (hm : Idle mo) : OE X W (.Dict [] [] pos) (eDctR i mo) := by
  refine ⟨_, pe_dnewT, fun ρ S io F σ H Q st en hw => ?_⟩
  rcases hm ρ S with e | ⟨d, e⟩
  · unfold eDctR at hw; rw [e] at hw; exact hw.elim
  · unfold eDctR at hw
    rw [e] at hw
    cases d with
    | p x => exact hw.elim
    | c k =>
      have hw : RG X.K (RepA X.K) (match S[k - i]? with
        | some .res => .ok (.c (k - i)) (S.set (k - i) (.dcT [] []))
        | _ => .bad) io F H Q _ := hw
      split at hw
      · rename_i hk
        intro q hq
        have hj : k - i < io.length := by rw [st.len]; exact (List.getElem?_eq_some_iff.mp hk).1
        have hi : (io.set (k - i) (some q))[k - i]? = some (some q) := List.getElem?_set_self hj
        obtain ⟨s3, n3⟩ := st.fill (o := .dT []) (c := .dcT [] []) hk hq ⟨q, [], hi, Same.free st.sub hq, upd_same, rfl, .nil⟩
        exact hw _ _ _ (.ref q) n3 s3 ⟨q, hi, rfl⟩
      · exact hw.elim
end
def eMakeR (r : Nat) (c : Str) (m : MF) : ME := fun _ S => mkO true c m [] (S ++ List.replicate r .res)
section
variable {X : Cx} {W : WX} {x : Str} {p pos : Pos} {params : Arguments} {ps : List Str} {k j : Nat} {m : MF}
theorem oe_makeR (r : Nat) (G : GC X.prog X.w X.K X.mg X.base x params ps k m) (hr : RoomG j X.A) (hk : k + 1 ≤ j) (tk : Takes X W) (hg : Gl X x := by rfl)
    (hdb : (x == ("__debug__" : Str)) = false := by decide) : OE X W (.Call (.Name x p) [] [] pos) (eMakeR r x m) := by
  obtain ⟨fd, F, hb, _⟩ := G.fn
  refine ⟨fun σ H Q => ∀ y dx, H y = none → H dx = none → dx ≠ y → spM X.K m [.ref y] (upd (upd H dx (.own y)) y (.ins (He.ga X.K x) dx [])) (fun v H2 => v = .non ∧ Q (.ref y) H2) (WE W σ), ⟨fun pins s σ H Q I h => ?_⟩, fun ρ S io F σ H Q st en h => ?_⟩
  · refine wpAny_Call_Name_kw (ld_glob I hg G.gl ?_ hdb)
    exact PySem.W.callWith_K0 I.kIn G.mkr.kp (run_makeS (us := []) (vs := []) (E := WE W) G.mkr F (hr.mono hk) hb (passAt tk σ) I .nil h)
  · obtain ⟨s1, n1⟩ := st.keeps r
    exact fun y dx hy hd ne => mkO_sp s1 (ds := []) (vs := []) rfl (RG.step n1 h) y dx hy hd ne
end
def kyOf : P → Option (Int ⊕ List Nat)
  | .int i => some (.inl i)
  | .str x => some (.inr x)
  | _ => none
def kysOf : List P → Option (List (Int ⊕ List Nat))
  | [] => some []
  | x :: xs => (kyOf x).bind fun a => (kysOf xs).map (a :: ·)
def atKy {A : Type} (k : List (Int ⊕ List Nat)) : List (List (Int ⊕ List Nat)) → List A → Option A
  | a :: ks, x :: xs => if a = k then some x else atKy k ks xs
  | _, _ => none
theorem strOf_inj {x y : List Nat} (h : strOf x = strOf y) : x = y := by
  have := congrArg (fun s : Str => s.cps.toList) h
  simpa [strOf] using this
theorem kk_inj {a b : Int ⊕ List Nat} (h : kk a = kk b) : a = b := by
  cases a <;> cases b <;> first
    | (cases h; rfl)
    | (have := Sum.inr.inj h; rw [strOf_inj this])
    | cases h
theorem kks_inj : ∀ {a b : List (Int ⊕ List Nat)}, a.map kk = b.map kk → a = b
  | [], [], _ => rfl
  | [], _ :: _, h => by cases h
  | _ :: _, [], h => by cases h
  | x :: a, y :: b, h => by
    have h := List.cons.inj h
    rw [kk_inj h.1, kks_inj h.2]
theorem kys_rep {K : PySem.W.Frag} {F : Hp} : ∀ {xs : List P} {vs : List V} {k : List (Int ⊕ List Nat)}, RepL K F xs vs → kysOf xs = some k → vs = (k.map kk).map kV
  | [], vs, k, r, e => by
    have r : vs = [] := r
    cases e
    exact r
  | x :: xs, vs, k, ⟨v, r, e1, h1, h2⟩, e => by
    have e : ((kyOf x).bind fun a => (kysOf xs).map (a :: ·)) = some k := e
    cases hx : kyOf x with
    | none => rw [hx] at e; cases e
    | some a =>
      rw [hx] at e
      have e : (kysOf xs).map (a :: ·) = some k := e
      cases hs : kysOf xs with
      | none => rw [hs] at e; cases e
      | some ks =>
        rw [hs] at e
        cases e
        rw [e1, kys_rep h2 hs]
        have hv : v = kV (kk a) := by
          cases x <;> first
            | (cases hx; done)
            | (cases hx; exact h1)
        rw [hv]
        rfl
theorem valV_at : ∀ (ks : List (List (Int ⊕ List Nat))) (ws : List V) (k : List (Int ⊕ List Nat)), ks.length = ws.length → valV ((ks.map (List.map kk)).zip ws) (k.map kk) = atKy k ks ws
  | [], [], k, _ => rfl
  | [], _ :: _, k, h => by cases h
  | _ :: _, [], k, h => by cases h
  | a :: ks, w :: ws, k, h => by
    have ih := valV_at ks ws k (by simpa using h)
    unfold valV at ih ⊢
    show ((((a.map kk, w) :: (ks.map (List.map kk)).zip ws).find? fun kv => decide (kv.1 = k.map kk)).map (·.2)) = _
    unfold atKy
    by_cases q : a = k
    · subst q
      rw [if_pos rfl, List.find?_cons_of_pos (by simp)]
      rfl
    · rw [if_neg q, List.find?_cons_of_neg (by simp; exact fun z => q (kks_inj z))]
      exact ih
theorem atKy_rep {K : PySem.W.Frag} {F : Hp} {k : List (Int ⊕ List Nat)} : ∀ {ks : List (List (Int ⊕ List Nat))} {xs : List P} {ws : List V}, RepL K F xs ws → (atKy k ks xs = none ∧ atKy k ks ws = none) ∨ ∃ x w, atKy k ks xs = some x ∧ atKy k ks ws = some w ∧ Rep K F x w
  | [], xs, ws, r => by
    left
    cases xs <;> cases ws <;> exact ⟨rfl, rfl⟩
  | a :: ks, [], ws, r => by
    have r : ws = [] := r
    subst r
    exact .inl ⟨rfl, rfl⟩
  | a :: ks, x :: xs, ws, ⟨w, t, e1, h1, h2⟩ => by
    subst e1
    unfold atKy
    by_cases q : a = k
    · rw [if_pos q, if_pos q]
      exact .inr ⟨x, w, rfl, rfl, h1⟩
    · rw [if_neg q, if_neg q]
      exact atKy_rep h2
theorem atKy_some {A B : Type} {k : List (Int ⊕ List Nat)} {ks : List (List (Int ⊕ List Nat))} {xs : List A} {ws : List B} (h : xs.length = ws.length) : (atKy k ks xs).isSome = (atKy k ks ws).isSome := by
  induction ks generalizing xs ws with
  | nil => cases xs <;> cases ws <;> rfl
  | cons a ks ih =>
    cases xs with
    | nil => cases ws with
      | nil => rfl
      | cons w ws => cases h
    | cons x xs => cases ws with
      | nil => cases h
      | cons w ws =>
        unfold atKy
        by_cases q : a = k
        · rw [if_pos q, if_pos q]; rfl
        · rw [if_neg q, if_neg q]; exact ih (by simpa using h)
def dKey (S : Sto) : Vl → Option (List (Int ⊕ List Nat))
  | .c i => (match S[i]? with
    | some (.tup xs) => kysOf xs
    | _ => none)
  | _ => none
theorem Sta.key {K : PySem.W.Frag} {io : Io} {F H : Hp} {S : Sto} (st : Sta K io F S H) {d : Vl} {v : V} {k : List (Int ⊕ List Nat)} (r : RepV K io F d v) (h : dKey S d = some k) : ∃ b, v = .ref b ∧ H b = some (.tup ((k.map kk).map kV)) := by
  cases d with
  | p x => cases h
  | c i =>
    unfold dKey at h
    dsimp only at h
    split at h
    · rename_i xs hi
      obtain ⟨a, ha, rfl⟩ := r
      obtain ⟨b, vs, hb, hF, hr⟩ := st.cel i _ hi
      rw [ha] at hb
      cases hb
      have := kys_rep hr h
      subst this
      exact ⟨a, rfl, st.sub _ _ hF⟩
    · cases h
theorem Sta.dict {K : PySem.W.Frag} {io : Io} {F H : Hp} {S : Sto} (st : Sta K io F S H) {j : Nat} {v : V} {ks : List (List (Int ⊕ List Nat))} {xs : List P} (r : RepV K io F (.c j) v) (h : S[j]? = some (.dcT ks xs)) :
    ∃ a ws, v = .ref a ∧ io[j]? = some (some a) ∧ F a = none ∧ H a = some (.dT ((ks.map (List.map kk)).zip ws)) ∧ ks.length = ws.length ∧ RepL K F xs ws := by
  obtain ⟨a, ha, rfl⟩ := r
  obtain ⟨b, ws, hb, hF, hH, hl, hr⟩ := st.cel j _ h
  rw [ha] at hb
  cases hb
  exact ⟨a, ws, rfl, ha, hF, hH, hl, hr⟩
def dHas (S : Sto) (d e : Vl) : Option Bool := match dKey S d, e with
  | some k, .c j => (match S[j]? with
    | some (.dcT ks xs) => some (atKy k ks xs).isSome
    | _ => none)
  | _, _ => none
def eNotInT (a b : ME) : ME := fun ρ S => (a ρ S).bind fun d S1 => (b ρ S1).bind fun e S2 => match dHas S2 d e with
  | some t => .ok (.p (.bl (!t))) S2
  | none => .bad
def dAt (S : Sto) (d e : Vl) : Option P := match dKey S d, e with
  | some k, .c j => (match S[j]? with
    | some (.dcT ks xs) => atKy k ks xs
    | _ => none)
  | _, _ => none
def eItemT (o i : ME) : ME := fun ρ S => (o ρ S).bind fun e S1 => (i ρ S1).bind fun d S2 => match dAt S2 d e with
  | some x => .ok (.p x) S2
  | none => .bad
def dPut (S : Sto) (d e : Vl) (x : P) : Option Sto := match dKey S d, e with
  | some k, .c j => (match S[j]? with
    | some (.dcT ks xs) => if atKy k ks xs = none ∧ ks.length < 100000 then some (S.set j (.dcT (ks ++ [k]) (xs ++ [x]))) else none
    | _ => none)
  | _, _ => none
def sPutT (v o i : ME) : MS := fun ρ S => (v ρ S).go ρ fun d S1 => (o ρ S1).go ρ fun e S2 => (i ρ S2).go ρ fun y S3 => (frz d S3).go ρ fun x S4 => match dPut S4 y e x with
  | some S5 => .ok (.nx ρ) S5
  | none => .bad
theorem Sta.has {K : PySem.W.Frag} {io : Io} {F H : Hp} {S : Sto} (st : Sta K io F S H) {d e : Vl} {v w : V} {t : Bool} (r : RepV K io F d v) (r2 : RepV K io F e w) (h : dHas S d e = some t) : ∃ a o, w = .ref a ∧ DGet H a v o ∧ o.isSome = t := by
  unfold dHas at h
  split at h
  · rename_i k j hk
    split at h
    · rename_i ks xs hj
      cases h
      obtain ⟨b, rfl, hb⟩ := st.key r hk
      obtain ⟨a, ws, rfl, ha, hF, hH, hl, hr⟩ := st.dict r2 hj
      refine ⟨a, _, rfl, DGet.t hH hb, ?_⟩
      rw [valV_at ks ws k hl]
      exact (atKy_some hr.length.symm).symm
    · cases h
  · cases h
section
variable {X : Cx} {W : WX} {a b i o v : Expr} {ma mb mi mo mv : ME} {pos pos' : Pos} {k : Nat}
theorem un1 {A : Around} (hr : Room k A) : A.units + 1 < cLine := by
  have := hr.units
  omega
theorem ot_notInT (hr : Room k X.A) (ha : OE X W a ma) (hb : OE X W b mb) (hm : behindInMarks .NotIn b = false := by rfl) : OT X W (.Compare a [.NotIn] [b] pos) (tVal (eNotInT ma mb)) := by
  obtain ⟨t, p, ha⟩ := ha
  obtain ⟨u, q, hb⟩ := hb
  refine ⟨_, pt_cmp (pc_dnotin (un1 hr) p q) hm, fun ρ S io F σ H Q st en h => ?_⟩
  have h : RG X.K RepB ((ma ρ S).bind fun d S1 => (mb ρ S1).bind fun e S2 => match dHas S2 d e with
    | some t => Res.ok (!t) S2
    | none => .bad) io F H Q (fun c d H' => W c d σ H') := by
    unfold tVal eNotInT at h
    cases q : ma ρ S with
    | bad => rw [q] at h; exact h
    | exc c x S1 => rw [q] at h; exact h
    | ok d S1 =>
      rw [q] at h
      have h : RG X.K RepB (((mb ρ S1).bind fun e S2 => match dHas S2 d e with
        | some t => Res.ok (Vl.p (.bl (!t))) S2
        | none => .bad).bind tst) io F H Q (fun c d H' => W c d σ H') := h
      show RG X.K RepB ((mb ρ S1).bind fun e S2 => match dHas S2 d e with
        | some t => Res.ok (!t) S2
        | none => .bad) io F H Q _
      cases q2 : mb ρ S1 with
      | bad => rw [q2] at h; exact h
      | exc c x S1 => rw [q2] at h; exact h
      | ok e S2 =>
        rw [q2] at h
        have h : RG X.K RepB ((match dHas S2 d e with
          | some t => Res.ok (Vl.p (.bl (!t))) S2
          | none => .bad).bind tst) io F H Q (fun c d H' => W c d σ H') := h
        show RG X.K RepB (match dHas S2 d e with
          | some t => Res.ok (!t) S2
          | none => .bad) io F H Q _
        cases q3 : dHas S2 d e with
        | none => rw [q3] at h; exact h
        | some t => rw [q3] at h; exact h
  refine ha ρ S io F σ H _ st en (RG.bind h fun d S1 io1 F1 H1 v e1 n1 s1 r1 h1 => ?_)
  refine hb ρ S1 io1 F1 σ H1 _ s1 (en.nxt n1) (RG.bind h1 fun e S2 io2 F2 H2 w e2 n2 s2 r2 h2 => ?_)
  cases hd : dHas S2 d e with
  | none => rw [hd] at h2; exact h2.elim
  | some x =>
    rw [hd] at h2
    obtain ⟨a, o, rfl, g, rfl⟩ := s2.has (r1.mono n2.han n2.fr) r2 hd
    exact ⟨a, o, rfl, g, !o.isSome, rfl, RG.val (R := RepB) (d := !o.isSome) s2 rfl h2⟩
theorem oe_itemT (hr : Room k X.A) (ho : OE X W o mo) (hi : OE X W i mi) (hs : NoSl i := by exact fun _ _ => rfl) : OE X W (.Subscript o i pos) (eItemT mo mi) := by
  obtain ⟨t, p, ho⟩ := ho
  obtain ⟨u, q, hi⟩ := hi
  refine ⟨_, pe_dget (un1 hr) p q hs, fun ρ S io F σ H Q st en h => ?_⟩
  refine ho ρ S io F σ H _ st en (RG.bind h fun e S1 io1 F1 H1 v e1 n1 s1 r1 h1 => ?_)
  refine hi ρ S1 io1 F1 σ H1 _ s1 (en.nxt n1) (RG.bind h1 fun d S2 io2 F2 H2 w e2 n2 s2 r2 h2 => ?_)
  cases hd : dAt S2 d e with
  | none => rw [hd] at h2; exact h2.elim
  | some x =>
    rw [hd] at h2
    unfold dAt at hd
    split at hd
    · rename_i k j hk
      split at hd
      · rename_i ks xs hj
        obtain ⟨b, rfl, hb⟩ := s2.key r2 hk
        obtain ⟨a, ws, rfl, ha, hF, hH, hl, hr⟩ := s2.dict (r1.mono n2.han n2.fr) hj
        rcases atKy_rep (k := k) (ks := ks) hr with ⟨z, _⟩ | ⟨x', w', z1, z2, rp⟩
        · rw [hd] at z; cases z
        · rw [hd] at z1
          cases z1
          refine ⟨a, w', rfl, ?_, RG.val (R := RepA X.K) (d := .p x) s2 rp h2⟩
          have g := DGet.t hH hb
          rw [valV_at ks ws k hl, z2] at g
          exact g
      · cases hd
    · cases hd
theorem putK_new {ks : List (List (Int ⊕ List Nat))} {ws : List V} {k : List (Int ⊕ List Nat)} {w : V} (hl : ks.length = ws.length) (h : atKy k ks ws = none) : putK ((ks.map (List.map kk)).zip ws) (k.map kk) w = ((ks ++ [k]).map (List.map kk)).zip (ws ++ [w]) := by
  have e : (((ks.map (List.map kk)).zip ws).any fun kv => decide (kv.1 = k.map kk)) = false := by
    have hv := valV_at ks ws k hl
    rw [h] at hv
    unfold valV at hv
    rw [Option.map_eq_none_iff, List.find?_eq_none] at hv
    rw [List.any_eq_false]
    exact hv
  unfold putK
  rw [e, if_neg (by decide), List.map_append, List.zip_append (by rw [List.length_map]; exact hl)]
  rfl
theorem os_putT (hr : Room k X.A) (ho : OE X W o mo) (hi : OE X W i mi) (hv : OE X W v mv) (hs : swapsWith v (some (.Subscript o i pos')) pos.line X.env = pure false := by rfl) : OS X W (.Assign [.Subscript o i pos'] v pos) (sPutT mv mo mi) := by
  obtain ⟨t, p, ho⟩ := ho
  obtain ⟨u, q, hi⟩ := hi
  obtain ⟨u2, q2, hv⟩ := hv
  refine ⟨_, ps_dput (un1 hr) p q q2 hs, fun ρ S io F σ H D st en h => ?_⟩
  refine hv ρ S io F σ H _ st en (RS.go (R := RepA X.K) en h fun d S1 io1 F1 H1 v e1 n1 s1 r1 h1 => ?_)
  refine ho ρ S1 io1 F1 σ H1 _ s1 (en.nxt n1) (RS.go (R := RepA X.K) (en.nxt n1) h1 fun e S2 io2 F2 H2 w e2 n2 s2 r2 h2 => ?_)
  refine hi ρ S2 io2 F2 σ H2 _ s2 ((en.nxt n1).nxt n2) (RS.go (R := RepA X.K) ((en.nxt n1).nxt n2) h2 fun y S3 io3 F3 H3 w3 e3 n3 s3 r3 h3 => ?_)
  cases hf : frz d S3 with
  | bad => rw [hf] at h3; exact h3.elim
  | exc c x S4 => exact absurd hf (frz_nox _ _ _ _ _)
  | ok x S4 =>
    rw [hf] at h3
    have rd3 := (r1.mono n2.han n2.fr).mono n3.han n3.fr
    obtain ⟨x', Sd', F4, n4, s4, rp, hz4, _⟩ := s3.frz (C := Vl) (D := V) (R' := RepA X.K) (g := fun _ S => .ok (.p .non) S) (Q := fun _ _ => True) (E := fun _ _ _ => True) rd3 (by rw [hf]; exact fun _ _ _ _ _ _ _ => trivial)
    rw [hf] at hz4; cases hz4
    have h3 : RS X.K (match dPut S4 y e x with
      | some S5 => .ok (.nx ρ) S5
      | none => .bad) io3 F3 H3 D W := h3
    cases hd : dPut S4 y e x with
    | none => rw [hd] at h3; exact h3.elim
    | some S5 =>
      rw [hd] at h3
      unfold dPut at hd
      split at hd
      · rename_i ky j hk
        split at hd
        · rename_i ks xs hj
          split at hd
          · rename_i hc
            cases hd
            obtain ⟨b, rfl, hb⟩ := s4.key (r3.mono n4.han n4.fr) hk
            obtain ⟨a, ws, rfl, ha, hF, hH, hl, hrl⟩ := s4.dict ((r2.mono n3.han n3.fr).mono n4.han n4.fr) hj
            have hw : atKy ky ks ws = none := by
              rcases atKy_rep (k := ky) (ks := ks) hrl with ⟨_, z⟩ | ⟨x', w', z1, _, _⟩
              · exact z
              · rw [hc.1] at z1; cases z1
            have hlen : ((ks.map (List.map kk)).zip ws).length < sizeLine := by
              rw [List.length_zip, List.length_map, ← hl, Nat.min_self]
              exact sz5l hc.2
            refine ⟨a, _, rfl, DPut.t hH hb hlen, ?_⟩
            rw [putK_new hl hw]
            obtain ⟨s5, n5⟩ := s4.write (o := .dT (((ks ++ [ky]).map (List.map kk)).zip (ws ++ [v]))) (c := .dcT (ks ++ [ky]) (xs ++ [x])) ha hF ⟨a, ws ++ [v], ha, hF, upd_same, by rw [List.length_append, List.length_append, hl]; rfl, hrl.append (.cons rp .nil)⟩
            exact h3 _ _ _ σ (n4.trans n5) s5 ((((en.nxt n1).nxt n2).nxt n3).nxt (n4.trans n5))
          · cases hd
        · cases hd
      · cases hd
end
theorem fn_bad {P : Program} {w : World} {K : PySem.W.Frag} {mg : Str → Option Value} {base : Heap} {k : Nat} {f : Addr} {fd : FuncData} {ps : List Str} : FnG P w K mg base k f fd ps (spM K fun _ _ => .bad) :=
  ⟨fun _ _ _ _ ⟨_, _, _, _, _, _, h⟩ => h.elim, fun _ _ _ _ _ _ _ _ _ _ _ _ _ ⟨_, _, _, _, _, _, h⟩ => h.elim⟩
end Mir

namespace Mir
open PySem L2
theorem Nxt.beside {io io1 : Io} {F F1 H H1 : Hp} {p : Addr} {o : HO} (hp : H p = none) (n : Nxt io F (upd H p o) io1 F1 H1) : Nxt io F H io1 F1 H1 where
  han := n.han
  fr := n.fr
  out := fun a u e q => n.out a u (by rw [upd_ne (ne_of_none e hp)]; exact e) q
  new := fun k a e => by
    rcases n.new k a e with z | z
    · exact .inl z
    · right
      by_cases h : a = p
      · subst h; exact hp
      · rw [upd_ne h] at z; exact z
  stay := fun a e => by
    have := n.stay a e
    by_cases h : a = p
    · subst h; exact hp
    · rw [upd_ne h] at this; exact this
  nf := fun a e => by
    rcases n.nf a e with z | z | z
    · exact .inl z
    · by_cases h : a = p
      · subst h; exact .inr (.inl hp)
      · rw [upd_ne h] at z; exact .inr (.inl z)
    · exact .inr (.inr z)
section
variable {X : Cx} {W : WX} {e : Expr} {m : ME} {k : Nat} {p1 p2 p3 p4 dpos pos : Pos} {j1 j2 j3 j4 : Nat} {x1 x2 x3 x4 : Str} {a b c d : List Nat}
end
end Mir

namespace Mir
open PySem L2 PyProof.Rows
open AutoSeq1 (wpAny_loadPart')
section
variable {prog : Program} {w : World} {A : Around} {E : Value → Shared → Prop} {s : Shared}
end
section
variable {prog : Program} {w : World} {A : Around} {E : Value → Shared → Prop} {s : Shared}
end
section
variable {X : Cx} {W : WX} {a : Expr} {ma : ME} {p pos tpos : Pos}
end
end Mir

namespace Mir
open PySem L2
def isStrP : P → Bool
  | .str _ => true
  | _ => false
section
variable {X : Cx} {W : WX} {a o : Expr} {ma mo : ME} {apos pos p : Pos}
end
end Mir

namespace Mir
open PySem L2
theorem strOf_back (x : Str) : strOf x.cps.toList = x := by
  cases x with
  | mk c => simp [strOf]
theorem strOf_cps (x : List Nat) : (strOf x).cps.toList = x := by simp [strOf]
section
variable {K : PySem.W.Frag}
end
section
variable {X : Cx} {W : WX} {a : Expr} {ma : ME} {pos p : Pos}
end
end Mir

namespace Mir
open PySem L2 PyProof.Rows
section
variable {X : Cx} {W : WX} {a b : Expr} {ma mb : ME} {p pos tpos : Pos}
end
end Mir

namespace Mir
open PySem L2
section
variable {X : Cx} {W : WX} {pos : Pos}
end
def dLook (S : Sto) (e d : Vl) : Option (Option P) := match rd S e, d with
  | some (.dct ks xs), .p k => (kOf k).map fun _ => dGet k ks xs
  | _, _ => none
theorem Sta.look {K : PySem.W.Frag} {io : Io} {F H : Hp} {S : Sto} (st : Sta K io F S H) {e d : Vl} {v w : V} {z : Option P} (re : RepV K io F e v) (rk : RepV K io F d w) (h : dLook S e d = some z) :
    ∃ a o, v = .ref a ∧ DGet H a w o ∧ (z = none → o = none) ∧ ∀ x, z = some x → ∃ u, o = some u ∧ Rep K F x u := by
  unfold dLook at h
  split at h
  · rename_i ks xs k hr
    cases hk : kOf k with
    | none => rw [hk] at h; cases h
    | some kk =>
      rw [hk] at h
      cases h
      obtain ⟨a, kvs, rfl, hH, r1, r2⟩ := st.rd re hr
      have hw : w = kV kk := rep_kOf hk rk
      subst hw
      obtain ⟨g1, g2⟩ := dGet_rep hk r1 r2
      exact ⟨a, valV kvs kk, rfl, DGet.k hH, g2, g1⟩
  · cases h
section
variable {X : Cx} {W : WX} {a b i o v f : Expr} {ma mb mi mo mv mf : ME} {pos pos' apos : Pos} {k : Nat}
end
section
variable {K : PySem.W.Frag}
end
section
variable {X : Cx} {W : WX} {a : Expr} {ma : ME} {pos p : Pos}
end
end Mir

namespace Mir
open PySem L2
section
variable {prog : Program} {w : World} {A : Around} {E : Value → Shared → Prop} {s : Shared}
end
section
variable {X : Cx} {W : WX} {a b : Expr} {ma mb : ME} {p p2 pos pos2 : Pos}
end
end Mir

namespace Mir
open PySem L2
section
variable {K : PySem.W.Frag}
end
section
variable {X : Cx} {W : WX} {a : Expr} {ma : ME} {pos p : Pos}
end
end Mir

namespace Mir
open PySem L2
section
variable {X : Cx} {W : WX} {a b : Expr} {ma mb : ME} {p p2 pos pos2 : Pos}
end
section
variable {X : Cx} {W : WX} {pos : Pos}
end
end Mir

namespace NeK
open PySem PySem.Spec PyProof.Rows PySem.SeqAt
section
variable {M : Model} {prog : Program} {w : World} {A : Around} {E : Value → Shared → Prop} {s : Shared} {K : PySem.W.Frag} {x C f : Addr} {ox : Obj} {od : Option Obj} {b tb : Value}
end
end NeK
namespace Mir
open PySem L2
section
variable {X : Cx} {W : WX} {a b : Expr} {ma mb : ME} {x : Str} {pos : Pos} {params : Arguments} {ps : List Str} {k j : Nat} {m : MF}
end
end Mir
namespace Mir
open PySem L2
abbrev DTab := List (List Nat × P)
section
variable {X : Cx} {W : WX} {pos : Pos} {keys : List (Option Expr)} {values : List Expr}
end
section
variable {X : Cx} {W : WX} {i f : Expr} {mi mf : ME} {ti tf : TE} {x : Str} {p0 apos cpos pos : Pos} {d : Addr} {es : Array DictEntry} {n : Nat} {tab : DTab}
end
abbrev AlMT : Type := AlM × List (Option (List (Option (Str × Int))))
def obsMT (ck : PySem.W.Frag → Bool) (fn : List DefM) (ts : List He.Tab) (K : PySem.W.Frag) : AlMT := (obsM ck fn K, ts.map fun t => He.dicW K (t.1 K))
def valMT (fn : List DefM) (ts : List He.Tab) (w : World) : AlMT := (valM fn, ts.map fun t => some (He.keysIn w.params t.2))
def SaysMT (ck : PySem.W.Frag → Bool) (fn : List DefM) (ts : List He.Tab) (w : World) (K : PySem.W.Frag) : Prop := obsMT ck fn ts K = valMT fn ts w
section
variable {ck : PySem.W.Frag → Bool} {fn : List DefM} {ts : List He.Tab} {w : World} {K : PySem.W.Frag}
theorem SaysMT.m (c : SaysMT ck fn ts w K) : SaysM ck fn K := congrArg (fun z : AlMT => z.1) c
theorem SaysMT.tab (c : SaysMT ck fn ts w K) (i : Nat) {t : He.Tab} (h : ts[i]? = some t := by rfl) : ∃ es n, KDict K w (t.1 K) es n := by
  have e : ts.map (fun t => He.dicW K (t.1 K)) = ts.map fun t => some (He.keysIn w.params t.2) := congrArg (fun z : AlMT => z.2) c
  have e2 : (ts.map fun t => He.dicW K (t.1 K))[i]? = (ts.map fun t => some (He.keysIn w.params t.2))[i]? := by rw [e]
  rw [List.getElem?_map, List.getElem?_map, h] at e2
  exact He.dicW_ok (Option.some.inj e2)
end
end Mir

namespace Mir
open PySem L2
section
variable {X : Cx} {k : Nat}
end
section
variable {K : PySem.W.Frag}
end
section
variable {X : Cx} {W : WX} {a : Expr} {ma : ME} {pos p : Pos} {k : Nat}
end
end Mir

namespace EqM
open PySem PySem.Spec PyProof.Rows PySem.SeqAt
open AutoSeq1 (wpAny_loadPart')
section
variable {prog : Program} {w : World} {A : Around} {E : Value → Shared → Prop} {s : Shared} {K : PySem.W.Frag} {y C : Addr} {oy : Obj} {od : Option Obj}
end
end EqM

namespace EqM
open PySem PySem.Spec PyProof.Rows PySem.SeqAt
section
variable {prog : Program} {w : World} {A : Around} {E : Value → Shared → Prop} {s : Shared} {K : PySem.W.Frag} {y C f : Addr} {oy : Obj} {od : Option Obj}
end
end EqM

namespace Mir
open PySem L2
section
variable {X : Cx} {pins : List (Addr × Obj)} {σ : St} {H : Hp} {s : Shared}
end
def boolV (neg : Bool) (r : Res Vl) : Res Vl := r.nox.bind fun d S => match d with
  | .p (.bl q) => .ok (.p (.bl (q != neg))) S
  | _ => .bad
section
variable {X : Cx} {W : WX} {a b : Expr} {ma mb : ME} {x : Str} {pos : Pos} {params : Arguments} {ps : List Str} {k j : Nat} {m : MF}
end
end Mir

namespace Mir
open PySem PySem.Spec PyProof.Rows L2
section
variable {X : Cx}
def tRev (K : PySem.W.Frag) (te : TE) : TE := fun σ H Q => te σ H fun x H1 => (∃ z : Str, x = .str z ∧ z.length ≤ sizeLine ∧ Q (.str ⟨z.cps.toList.reverse.toArray⟩) H1) ∨ ∃ a xs, x = .ref a ∧ SqL K H1 a xs ∧ ∀ p, H1 p = none → Q (.ref p) (upd H1 p (.lst xs.reverse))
theorem idx_rev (n : Nat) : Builtin.Str.strSliceIndices none none (-1) n = (List.range n).reverse := by
  show sliceRange ((n : Int) - 1) (-1) (-1) = _
  rw [PySem.W.krv_sliceRange, PySem.W.krv_range]
theorem pe_rev {e : Expr} {te : TE} {k : Nat} {p1 p2 p3 pos : Pos} (he : PE X e te) : PE X (.Subscript e (.Slice none none (some (.UnaryOp .USub (.Constant (.int 1) k p1) p2)) p3) pos) (tRev X.K te) := by
  refine ⟨fun pins s σ H Q I h => ?_⟩
  refine Subscript_ (thn (he.run pins s σ H _ I h) fun v s1 ⟨x, H1, I1, r1, q1⟩ => ?_)
  have hst : PO X (some (.UnaryOp .USub (.Constant (.int 1) k p1) p2)) (tPart (tUn (rU fun i => .int (-i)) (tC (.int 1)))) := po_some (pe_un un_neg pe_int)
  refine wpAny_Slice (thn (po_none.run pins s1 σ H1 (fun o H2 => o = none ∧ H2 = H1) I1 ⟨rfl, rfl⟩) fun vl s2 ⟨l, H2, I2, pl, el, e2⟩ => ?_)
  subst el e2
  refine thn (po_none.run pins s2 σ H2 (fun o H3 => o = none ∧ H3 = H2) I2 ⟨rfl, rfl⟩) fun vu s3 ⟨u, H3, I3, pu, eu, e3⟩ => ?_
  subst eu e3
  refine thn (hst.run pins s3 σ H3 (fun o H4 => o = some (-1) ∧ H4 = H3) I3 ⟨1, rfl, -1, rfl, rfl, rfl⟩) fun vs s4 ⟨o, H4, I4, ps, eo, e4⟩ => ?_
  subst eo e4
  have I5 : Inv X pins σ H4 { s4 with heap := s4.heap.push { cls := .type "slice", data := .fields #[vl, vu, vs] } } := I4.kept (t' := s4.toks) fun b ob q => Heap.get?_push_of_some _ q
  rcases q1 with ⟨z, rfl, hz, q⟩ | ⟨a, xs, rfl, hx, q⟩
  · obtain ⟨t, rfl⟩ := r1
    cases pl
    cases pu
    cases ps with
    | int i t2 =>
      show wpAny (model X.prog X.w) X.A (subscriptTail e (.Slice none none (some (.UnaryOp .USub (.Constant (.int 1) k p1) p2)) p3) (.str z t) (.ref s4.heap.objs.size)) (EP X pins σ Q) X.xe { s4 with heap := s4.heap.push { cls := .type "slice", data := .fields #[.none, .none, .int (-1) t2] } }
      refine tail_any (ops := [.str z t, .ref s4.heap.objs.size]) (typeIs_str _ _ _) (PySem.F.slot_str_getitem.lookup) ?_ (by with_unfolding_all rfl)
      refine wpAny_getItem_str_slice (l := none) (u := none) (st := some (-1, t2)) ⟨_, Heap.get?_push_size _ rfl, rfl, rfl⟩ rfl ?_
      have hm : sliceMade z t none none (some (-1, t2)) = .str ⟨z.cps.toList.reverse.toArray⟩ := by
        show (if (((-1 : Int) == 1) && _) = true then _ else Made.str ⟨((Builtin.Str.strSliceIndices none none (-1) z.length).filterMap (z.cps[·]?)).toArray⟩) = _
        rw [show ((-1 : Int) == 1) = false from rfl, Bool.false_and, if_neg (by decide), idx_rev, List.filterMap_reverse]
        have e := PySem.W.krv_all z.cps
        rw [show z.length = z.cps.size from rfl, e]
      rw [hm]
      have hl : (⟨z.cps.toList.reverse.toArray⟩ : Str).length ≤ sizeLine := by
        show z.cps.toList.reverse.toArray.size ≤ sizeLine
        rw [List.size_toArray, List.length_reverse]
        exact hz
      exact ⟨hl, ⟨.str _, H4, I5.tok _, ⟨_, rfl⟩, q⟩⟩
  · cases r1
    obtain ⟨its, r, ht, hz⟩ := I5.list hx
    have hlen := r.length
    show wpAny (model X.prog X.w) X.A (subscriptTail e (.Slice none none (some (.UnaryOp .USub (.Constant (.int 1) k p1) p2)) p3) (.ref a) (.ref s4.heap.objs.size)) (EP X pins σ Q) X.xe { s4 with heap := s4.heap.push { cls := .type "slice", data := .fields #[vl, vu, vs] } }
    refine tail_any (ops := [.ref a, .ref s4.heap.objs.size]) ht.isList.typeIs (PySem.slot_list_getitem.lookup) ?_ (by with_unfolding_all rfl)
    refine wpAny_getItem_list_slice ht.isList (Heap.IsSliceOf.new _ vl vu vs) pl pu ps (by decide) ?_ (by rw [List.size_toArray]; omega)
    rw [PySem.W.krv_pick]
    refine ⟨.ref _, _, I5.laid (t' := s4.toks) (o := .lst xs.reverse) (fun b ob q => Heap.get?_push_of_some _ q) (Nat.le_refl _) ?_, rfl, q _ (I5.hok.fresh (Nat.le_refl _))⟩
    exact ⟨by rw [List.length_reverse]; exact hz, _, 0, r.reverse, Heap.get?_push_size _ rfl⟩
end
def pRev : P → Option P
  | .str x => if x.length ≤ 100000 then some (.str x.reverse) else none
  | .lst xs => some (.lst xs.reverse)
  | _ => none
section
variable {X : Cx} {W : WX} {e : Expr} {me : ME}
theorem oe_rev {k : Nat} {p1 p2 p3 pos : Pos} (he : OE X W e me) : OE X W (.Subscript e (.Slice none none (some (.UnaryOp .USub (.Constant (.int 1) k p1) p2)) p3) pos) (eUn pRev me) := by
  obtain ⟨t, p, he⟩ := he
  refine ⟨_, pe_rev p, fun ρ S io F σ H Q st en h => ?_⟩
  refine he ρ S io F σ H _ st en (RG.bind h fun d S1 io1 F1 H1 v e1 n1 s1 r1 h1 => ?_)
  unfold op1 at h1
  cases e2 : rd S1 d with
  | none => rw [e2] at h1; exact h1.elim
  | some y =>
    rw [e2] at h1
    have rr := s1.rd r1 e2
    cases y with
    | str z =>
      have rr : v = .str (strOf z) := rr
      subst rr
      have h1 : RG X.K (RepA X.K) (match (if z.length ≤ 100000 then some (P.str z.reverse) else none) with
        | some z => Res.ok (.p z) S1
        | none => .bad) io1 F1 H1 Q (fun c d H' => W c d σ H') := h1
      by_cases hz : z.length ≤ 100000
      · rw [if_pos hz] at h1
        have hl : (strOf z).length = z.length := by
          show z.toArray.size = _
          exact List.size_toArray ..
        refine .inl ⟨strOf z, rfl, by rw [hl]; exact sz5 hz, RG.val (R := RepA X.K) (d := .p (.str z.reverse)) s1 ?_ h1⟩
        show V.str _ = V.str _
        unfold strOf
        rfl
      · rw [if_neg hz] at h1; exact h1.elim
    | lst zs =>
      obtain ⟨a, vs, rfl, hH, hr⟩ := rr
      refine .inr ⟨a, vs, rfl, SqL.of hH, fun q hq => ?_⟩
      obtain ⟨s3, n3⟩ := s1.froze (o := .lst vs.reverse) hq
      exact h1 io1 _ _ (.ref q) n3 s3 ⟨q, vs.reverse, rfl, upd_same, RepL.mono n3.fr hr.reverse⟩
    | _ => exact h1.elim
end
def eDct0 : ME := fun _ S => .ok (.p (.dct [] [])) S
section
variable {X : Cx} {W : WX} {pos : Pos}
theorem oe_dct0 : OE X W (.Dict [] [] pos) eDct0 := by
  refine ⟨_, pe_dnewK, fun ρ S io F σ H Q st en hw => fun p hp => ?_⟩
  obtain ⟨s3, n3⟩ := st.froze (o := .dK []) hp
  exact hw _ _ _ (.ref p) n3 s3 ⟨p, [], rfl, upd_same, .nil, .nil⟩
end
section
variable {K : PySem.W.Frag}
end
section
variable {X : Cx} {W : WX} {a : Expr} {ma : ME} {pos p : Pos}
end
section
variable {X : Cx} {W : WX} {a : Expr} {ma : ME} {x : Str} {pos p : Pos} {params : Arguments} {ps : List Str} {k j : Nat} {m : MF}
end
end Mir

namespace Mir
open PySem L2
section
variable {X : Cx} {W : WX} {mks : MA} {x : Str} {p pos : Pos} {params : Arguments} {ps ks : List Str} {k j : Nat} {m : MF} {kws : List Keyword} {kp : Bool}
end
end Mir

namespace Mir
open PySem L2
section
variable {X : Cx} {pins : List (Addr × Obj)} {σ : St} {H F : Hp} {s : Shared}
end
section
variable {X : Cx} {W : WX} {pos : Pos}
end
end Mir

namespace Mir
open PySem L2
def DnAt (K : PySem.W.Frag) (η : NestedKey → Int) (H : Hp) (a : Addr) (es : List (NestedKey × Addr × V)) : Prop := ∃ F ks, Same F H ∧ H a = some (DNo η a es) ∧ nkL ks = some (es.map (·.1)) ∧ RepL K F ks (es.map fun e => V.ref e.2.1)
section
variable {X : Cx} {pins : List (Addr × Obj)} {σ : St} {H : Hp} {s : Shared} {a b : Addr} {es : List (NestedKey × Addr × V)} {k : NestedKey}
end
noncomputable def sameH (a b : NestedKey → Int) : Bool := @decide (a = b) (Classical.propDecidable _)
theorem sameH_ok {a b : NestedKey → Int} (h : sameH a b = true) : a = b := @of_decide_eq_true _ (Classical.propDecidable _) h
noncomputable def isDN (η : NestedKey → Int) (S : Sto) : Vl → Bool
  | .c j => (match S[j]? with
    | some (.dcN η' _ _) => sameH η' η
    | _ => false)
  | _ => false
theorem Sta.dn {K : PySem.W.Frag} {io : Io} {F H : Hp} {S : Sto} {η : NestedKey → Int} (st : Sta K io F S H) {d : Vl} {v : V} (r : RepV K io F d v) (h : isDN η S d = true) : ∃ a es, v = .ref a ∧ DnAt K η H a es := by
  cases d with
  | p x => cases h
  | c j =>
    unfold isDN at h
    dsimp only at h
    split at h
    · rename_i η' ks xs hk
      have e : η' = η := sameH_ok h
      subst e
      obtain ⟨a, ha, rfl⟩ := r
      obtain ⟨b, es, hb, hF, hH, h1, h2, h3⟩ := st.cel j _ hk
      rw [ha] at hb; cases hb
      exact ⟨a, es, rfl, F, ks, st.sub, hH, h1, h2⟩
    · cases h
section
variable {X : Cx} {W : WX} {o e f : Expr} {mo me mf : ME} {td ty tx : TE} {apos cpos : Pos} {j : Nat}
end
end Mir

namespace Mir
open PySem L2
section
variable {X : Cx} {W : WX} {o e f : Expr} {mo me mf : ME} {td ty tx : TE} {apos cpos pos p mpos : Pos} {j : Nat}
end
section
variable {K : PySem.W.Frag} {io io1 : Io} {F F1 H H1 : Hp} {S S1 : Sto} {Q : VK} {E : XK}
end
section
variable {P : Program} {w : World} {K : PySem.W.Frag} {mg : Str → Option Value} {base : Heap} {x qual : Str} {params : Arguments} {body : List Stmt} {scope : Scope} {dvs : List V} {kws : List (Str × V)} {f : Addr} {fd : FuncData} {N ps : List Str} {k nl : Nat} {m : MS}
end
end Mir

namespace Mir
open PySem L2
section
variable {X : Cx} {W : WX} {tg iter : Expr} {me : ME} {m : MS} {pos : Pos}
end
section
variable {K : PySem.W.Frag} {Q : VK} {E : XK}
end
section
variable {X : Cx} {W : WX} {elt tg iter : Expr} {ifs : List Expr} {scope : Scope} {own : List (Str × Nat)} {pos : Pos} {me : ME} {js : List Nat} {g : MG} {t : MT} {e : ME}
end
end Mir

namespace Mir
open PySem PySem.Spec L2 PySem.Builtin PySem.Builtin.ObjectAttr
structure ExB (newId : String) (bmB : List Value) : Prop where
  bf : ∃ B i, ExcBaseFacts B newId i bmB
  sf : ∃ B, StoreFacts B bmB "object.__setattr__" "object"
abbrev bmV : List Value := [.type "ValueError", .type "Exception", .type "BaseException", .type "object"]
abbrev bmL : List Value := [.type "LookupError", .type "Exception", .type "BaseException", .type "object"]
abbrev bmA : List Value := [.type "ArithmeticError", .type "Exception", .type "BaseException", .type "object"]
theorem exb_V : ExB "ValueError.__new__" bmV := ⟨⟨_, _, F.excBase_ValueError⟩, ⟨_, F.store_ValueError⟩⟩
theorem exb_L : ExB "LookupError.__new__" bmL := ⟨⟨_, _, F.excBase_LookupError⟩, ⟨_, F.store_LookupError⟩⟩
theorem exb_A : ExB "ArithmeticError.__new__" bmA := ⟨⟨_, _, F.excBase_ArithmeticError⟩, ⟨_, F.store_ArithmeticError⟩⟩
structure OexG (K : PySem.W.Frag) (C : Addr) : Prop where
  cls : ∃ newId bmB, ExB newId bmB ∧ PySem.W.excInitIn K C bmB newId = true ∧ PySem.W.excOver K C bmB = true
  hd : ∃ cd, PySem.W.clsIn K C = some cd ∧ cd.hasDict = true
  sa : PySem.W.findIn K (.ref C) "__setattr__" = some (some (.builtin "object.__setattr__"))
  exC : PySem.W.subIn K (.ref C) (.type "BaseException") = some true
  tyC : PySem.W.typeIn K (.ref C) = some (.type "type")
  kC : PySem.W.keepIn K (.ref C) = true
section
variable {prog : Program} {w : World} {A : Around} {E : Value → Shared → Prop} {R : Result → Shared → Prop} {hp : Heap} {g : Array GenState} {d : Drawn} {t : Nat} {os : OsState}
theorem osa_newG {K : PySem.W.Frag} {B : String} {bmB : List Value} {name : Str} {tk : Tok} {v : Value} {x C : Addr} {fv : Array Value} {cd : ClassData} (SF : StoreFacts B bmB "object.__setattr__" "object")
    (X : K.In hp) (hx : hp.get? x = some { cls := .ref C, data := .fields fv }) (ho : PySem.W.excOver K C bmB = true) (hcd : PySem.W.clsIn K C = some cd) (hh : cd.hasDict = true) (ha : PySem.W.findIn K (.ref C) name = some none)
    (hq : ∀ h' tk' dx, (∀ b o, b ≠ x → hp.get? b = some o → h'.get? b = some o) → hp.objs.size ≤ dx → dx ≠ x → h'.get? x = some { cls := .ref C, dict := some dx, data := .fields fv } →
      h'.Ns1 dx (fun y => if y = name then some v else none) → R (.ok (.ret .none)) ⟨h', g, d, tk', os⟩) :
    codeAny (model prog w) A (.call (.builtin "object.__setattr__") ⟨[.ref x, .str name tk, v], []⟩) R ⟨hp, g, d, t, os⟩ := by
  have I : PySem.W.InstAt hp x { cls := .ref C, data := .fields fv } C none := ⟨hx, rfl, rfl, trivial⟩
  have hxs : x ≠ hp.objs.size := Nat.ne_of_lt (Heap.lt_size hx)
  have hcls : PySem.W.Looks (model prog w) hp (classData C) cd := PySem.W.looks_clsIn X hcd
  refine PySem.W.osa_openX (s := ⟨hp, g, d, t, os⟩) SF X I ho (r := none) (by unfold PySem.W.takerIn; rw [ha]; rfl) fun b => ?_
  show wpAny _ _ (storeInOwnDict (.ref x) (.ref C) (.str name tk) name v b) _ _ _
  obtain ⟨nm, bs, mro, ns, qn, hd, sn, sb, ab, col, del⟩ := cd
  dsimp only at hh
  subst hh
  unfold storeInOwnDict ownDictForStores
  repeat (first | with_reducible refine PySem.HandSPX.store_in_new ?_ ?_ | with_reducible refine wpAny_loadPart_at hx ?_ | with_reducible refine hcls.at ?_ | wp_step)
  · exact ⟨_, #[], _, (Heap.get?_update_ne _ _ _ _ hxs.symm).trans (Heap.get?_push_at rfl rfl), rfl, fun e he => absurd he (by simp), fun _ => rfl⟩
  · intro h' tk' hn' hs
    have hx₁ : (hp.push { cls := .type "dict", data := .dict #[] }).get? x = some { cls := .ref C, data := .fields fv } := Heap.get?_push_of_some _ hx
    refine hq h' tk' hp.objs.size (fun b o hb ho => ?_) (Nat.le_refl _) hxs.symm ?_ hn'
    · exact (hs.2 b (Nat.ne_of_lt (Heap.lt_size ho))).trans ((Heap.get?_update_ne _ _ _ _ hb).trans (Heap.get?_push_of_some _ ho))
    · exact (hs.2 x hxs).trans (Heap.get?_update_self _ hx₁ rfl)
end
section
variable {X : Cx} {pins : List (Addr × Obj)} {σ : St} {H : Hp} {s : Shared} {a C dx : Addr} {f : Str} {y : V} {u : Value} {fs : List (Str × V)} {Q : Unit → Shared → Prop} {E : Value → Shared → Prop} {A : Around}
theorem ost_newG (T : OexG X.K C) (I : Inv X pins σ H s) (e : H a = some (exo a C none)) (hno : PySem.W.findIn X.K (.ref C) f = some none) (ry : RelV y u)
    (h : ∀ dx s', H dx = none → dx ≠ a → Inv X pins σ (upd (upd H dx (exd dx [(f, y)])) a (exo a C (some dx))) s' → Q () s') : wpAny (model X.prog X.w) A (setAttr (.ref a) f u) Q E s := by
  obtain ⟨newId, bmB, ⟨_, ⟨B, SF⟩⟩, _, hov⟩ := T.cls
  obtain ⟨cd, hcl, hdt⟩ := T.hd
  obtain ⟨t1, ho⟩ := exo_at I.hok e
  obtain ⟨hp, g, d, t, os⟩ := s
  refine PySem.W.set_plain I.kIn (ox := { cls := .ref C, dict := none, data := .fields #[.ref t1, .none, .none, .none, .bool false, .none] }) (od := none) ⟨ho, rfl, rfl, trivial⟩ T.sa ?_
  refine osa_newG SF I.kIn ho hov hcl hdt hno (fun h' tk' dx k dn dne hx hn => ?_)
  have hnd : H dx = none := I.hok.fresh dn
  have nd : ∀ {b : Addr} {o : Obj}, hp.get? b = some o → b ≠ dx := fun {b o} q => Nat.ne_of_lt (Nat.lt_of_lt_of_le (Heap.lt_size q) dn)
  have na : ∀ {b : Addr}, H b = none → b ≠ a := fun {b} n z => by
    rw [z, e] at n
    cases n
  have Un1 : Un X.fs [] H (upd (upd H dx (exd dx [(f, y)])) a (exo a C (some dx))) hp h' := {
    keep := fun b o q n _ _ => k b o (na n) q
    slot := fun b o q n _ _ => ⟨o.slots, k b o (na n) q⟩
    free := fun b o q n _ => by rw [upd_ne (na n), upd_ne (nd q)]; exact n
    there := fun b o q _ => by
      by_cases hb : b = a
      · exact ⟨_, by rw [hb]; exact hx⟩
      · exact ⟨o, k b o hb q⟩
    tups := fun b xs q => by rw [upd_ne (at_ne e q exo_tup), upd_ne (ne_of_none q hnd)]; exact q
    frzs := fun b o v q => by rw [upd_ne (at_ne e q exo_frz), upd_ne (ne_of_none q hnd)]; exact q
    tbls := fun b ps q => ⟨#[], by rw [upd_ne (at_ne e q exo_tbl), upd_ne (ne_of_none q hnd), q]; simp⟩ }
  refine h dx _ hnd dne (I.un (t' := tk') Un1 fun b o q => ?_)
  by_cases hb : b = a
  · subst hb
    rw [upd_same] at q
    cases q
    exact exo_ok hx
  · rw [upd_ne hb] at q
    by_cases hd : b = dx
    · subst hd
      rw [upd_same] at q
      cases q
      exact exd_ok hn (relO_put (fs := []) ry fun g => True.intro)
    · rw [upd_ne hd] at q
      exact (I.hok b o q).stay (fun c v hc z => k c v (by
          rcases hc with hc | hc
          · rw [hc]
            exact hb
          · exact at_ne e hc exo_own) z)
        (fun c hc => by rw [upd_ne (at_ne e hc exo_own), upd_ne (ne_of_none hc hnd)]; exact hc) (fun c xs hc => by rw [upd_ne (at_ne e hc exo_tup), upd_ne (ne_of_none hc hnd)]; exact hc)
end
def tOs1 (K : PySem.W.Frag) (f : Str) (to te : TE) : TS := fun D σ H => te σ H fun y H1 => to σ H1 fun x H2 => ∃ a C : Addr, x = .ref a ∧ OexG K C ∧ PySem.W.findIn K (.ref C) f = some none ∧
  H2 a = some (exo a C none) ∧ ∀ dx, H2 dx = none → dx ≠ a → D.nx σ (upd (upd H2 dx (exd dx [(f, y)])) a (exo a C (some dx)))
section
variable {X : Cx} {o e : Expr} {es : List Expr} {to te : TE} {ta : TA} {f : Str} {p p' p1 p2 pos : Pos}
theorem ps_os1 (ho : PE X o to) (he : PE X e te) (hs : swapsWith e (some (.Attribute o f p')) pos.line X.env = pure false := by rfl) : PS X (.Assign [.Attribute o f p'] e pos) (tOs1 X.K f to te) := by
  refine ⟨fun pins s σ H D I h => ?_⟩
  refine plainObj_wpAny_Assign_Attribute (thn (he.run pins s σ H _ I h) fun v s1 ⟨y, H1, I1, r1, q1⟩ => thn (ho.run pins s1 σ H1 _ I1 q1) fun u s2 ⟨x, H2, I2, r2, a, C, ex, T, hno, ea, q⟩ => ?_) hs
  subst ex
  obtain rfl : u = Value.ref a := r2
  exact ost_newG T I2 ea hno r1 fun dx s' n ne J => ⟨σ, _, J, q dx n ne⟩
theorem pmk_oexG {W : WX} {x : Str} {C fI : Addr} {k : Nat} {fd : FuncData} {ps : List Str} {sp : Sp} (T : OexG X.K C) (iC : PySem.W.findIn X.K (.ref C) "__init__" = some (some (.ref fI))) (tI : PySem.W.typeIn X.K (.ref fI) = some (.type "function"))
    (F1 : FnG X.prog X.w X.K X.mg X.base k fI fd ps sp) (hr : RoomG (k + 1) X.A) (hb : Binds X.K fd ps []) (tk : Takes X W) (hg : Gl X x) (hm : X.mg x = some (.ref C)) (ha : PA X (e :: es) ta)
    (hdb : (x == ("__debug__" : Str)) = false := by decide) (he : starEach (e :: es) X.env = (false, eval e X.env) :: starEach es X.env := by rfl) (hpl : (backTo pos (starEach es X.env)).any (·.1) = false := by rfl) :
    PMk X (.Call (.Name x p) (e :: es) [] pos) (tMkO C sp [] ta) := by
  intro pins s σ H Q I h
  obtain ⟨newId, bmB, ⟨⟨B, ini, BF⟩, _⟩, hin, _⟩ := T.cls
  refine wpAny_Call_Name_kw (ld_glob I hg hm ?_ hdb)
  refine PySem.W.callWith_K (h₀ := X.base) I.ok.mod.kin T.kC (thn (ha.run pos pins s σ H _ I h) fun us s1 ⟨vs, H1, I1, r1, hz, q1⟩ => ⟨I1.kIn, ?_⟩) he hpl
  show wpAny _ _ (call (.ref C) us) _ _ _
  obtain ⟨hp, g, dr, tk0, os⟩ := s1
  obtain ⟨nm, N, qn, bs, bm, hdct, sn, sub, ab, col, dd, k0, k1, k2, k3, k5, hC, hbm⟩ := PySem.W.excInit_of I1.kIn hin
  have hsz : hp.objs.size ≤ hp.objs.size + 1 := Nat.le_succ _
  have hn : H1 (hp.objs.size + 1) = none := I1.hok.fresh hsz
  have hq := q1 (hp.objs.size + 1) hn
  have kk : ∀ b o, hp.get? b = some o → ((hp.push (PySem.W.kdv_tup us)).push (PySem.HandSPX.excO C hp.objs.size)).get? b = some o := fun b o e => Heap.get?_push_of_some _ (Heap.get?_push_of_some _ e)
  have hget : ((hp.push (PySem.W.kdv_tup us)).push (PySem.HandSPX.excO C hp.objs.size)).get? (hp.objs.size + 1) = some (PySem.HandSPX.excO C hp.objs.size) := by heap_get
  have I2 : Inv X pins σ (upd H1 (hp.objs.size + 1) (exo (hp.objs.size + 1) C none)) ⟨(hp.push (PySem.W.kdv_tup us)).push (PySem.HandSPX.excO C hp.objs.size), g, dr, tk0, os⟩ :=
    I1.laid (t' := tk0) (a := hp.objs.size + 1) (o := exo (hp.objs.size + 1) C none) (h' := (hp.push (PySem.W.kdv_tup us)).push (PySem.HandSPX.excO C hp.objs.size)) kk hsz (exo_ok hget)
  have r2 : Vals (V.ref (hp.objs.size + 1) :: (vs ++ [])) (Value.ref (hp.objs.size + 1) :: (us ++ [])) := .cons rfl (r1.append .nil)
  have hl : (Value.ref (hp.objs.size + 1) :: us ++ []).length = ps.length := by
    have e := r2.length
    rw [F1.len _ _ _ _ hq] at e
    exact e.symm
  have hbt := hb _ (Value.ref (hp.objs.size + 1) :: us) I2.kIn hl
  rw [List.cons_append] at hbt
  have hus : us.length ≤ sizeLine := by
    rw [← Paired.length r1, sizeLine_eq]
    omega
  refine wpAny_call (PySem.HandSPX.call_own BF hbm hC (PySem.W.looks_findIn I1.kIn iC) (fun self => PySem.W.bind_fn I1.kIn self tI) hus
    (codeAny_mono (F1.run _ X.stack _ _ ⟨Value.ref (hp.objs.size + 1) :: us, []⟩ (Value.ref (hp.objs.size + 1) :: (us ++ [])) _ _ (fun _ _ _ => False) (hr.make C us []) (I2.env0.make C us []) hbt r2 hq) fun r s' hq' => ?_))
  cases r with
  | error er => exact tk _ _ (XE.of_call I2 (fun _ _ _ z => z.elim) hq')
  | ok fl =>
    cases fl with
    | ret u =>
      obtain ⟨v, H2, os2, bare2, un2, hok2, rv, ev, d, fs, ea, ed, hd1, q2⟩ := hq'
      subst ev
      obtain ⟨h2, g2, d2, t2, os'⟩ := s'
      exact ⟨rv, mk_end (raises_own T.exC T.tyC) I1 hsz kk un2 hok2 os2 bare2 ea ed hd1 q2⟩
    | next => exact False.elim hq'
    | brk => exact False.elim hq'
    | cont => exact False.elim hq'
end
def spXI (C : Addr) (f : Str) : Sp := fun vs H Q _ => ∃ a y, vs = [.ref a, y] ∧ H a = some (exo a C none) ∧ ∀ dx, H dx = none → dx ≠ a → Q .non (upd (upd H dx (exd dx [(f, y)])) a (exo a C (some dx)))
theorem fn_xinit {P : Program} {w : World} {K : PySem.W.Frag} {mg : Str → Option Value} {base : Heap} {x qual sn yn : Str} {params : Arguments} {body : List Stmt} {scope : Scope} {fI C : Addr} {fd : FuncData} {k : Nat} {f : Str} {p1 p2 p3 pos : Pos}
    (F : FunD K x qual params body scope [] [] fI fd) (sc : FnScope [sn, yn] [sn, yn] scope) (T : OexG K C) (hno : PySem.W.findIn K (.ref C) f = some none) (hb : body = [.Assign [.Attribute (.Name sn p1) f p2] (.Name yn p3) pos])
    (v1 : Vis scope sn) (v2 : Vis scope yn) (d1 : (sn == ("__debug__" : Str)) = false := by decide) (d2 : (yn == ("__debug__" : Str)) = false := by decide) (c1 : (sn == ("__classdict__" : Str)) = false := by decide) (c2 : (yn == ("__classdict__" : Str)) = false := by decide) :
    FnG P w K mg base (k + 1) fI fd [sn, yn] (spXI C f) := by
  refine fnG_of F sc (fun vs H Q E h => ?_) fun cdv A outer s H vs Q E hr h => ?_
  · obtain ⟨a, y, rfl, _⟩ := h
    rfl
  · obtain ⟨a, y, rfl, ha, q⟩ := h
    subst hb
    refine ⟨_, pss_one (ps_os1 (pe_var (i := 0) rfl v1 d1 c1) (pe_var (i := 1) rfl v2 d2 c2)), ?_⟩
    exact ⟨y, rfl, .ref a, rfl, a, C, rfl, T, hno, ha, fun dx n ne => q dx n ne⟩
structure XC (P : Program) (w : World) (K : PySem.W.Frag) (mg : Str → Option Value) (base : Heap) (c f : Str) (k : Nat) : Prop where
  g : mg c = some (.ref (He.ga K c))
  T : OexG K (He.ga K c)
  ini : ∃ fI fd ps, PySem.W.findIn K (.ref (He.ga K c)) "__init__" = some (some (.ref fI)) ∧ PySem.W.typeIn K (.ref fI) = some (.type "function") ∧ FnG P w K mg base k fI fd ps (spXI (He.ga K c) f) ∧ Binds K fd ps []
def sRaise (c f : Str) (a : MA) : MS := fun ρ S => (a ρ S).go ρ fun ds S1 => match ds with
  | [d] => (frz d S1).go ρ fun x S2 => .ok (.xc ρ c (some ([f], [x]))) S2
  | _ => .bad
theorem os_raise {X : Cx} {W : WX} {c f : Str} {k j : Nat} {e : Expr} {mas : MA} {p pos pos' : Pos} (G : XC X.prog X.w X.K X.mg X.base c f k) (hr : RoomG j X.A) (hk : k + 1 ≤ j) (hc : X.calm = true) (tk : Takes X W) (ha : OA X W [e] mas) (hg : Gl X c := by rfl)
    (hdb : (c == ("__debug__" : Str)) = false := by decide) (he : starEach [e] X.env = (false, eval e X.env) :: starEach [] X.env := by rfl) :
    OS X W (.Raise (some (.Call (.Name c p) [e] [] pos)) none pos') (sRaise c f mas) := by
  obtain ⟨fI, fd, ps, iC, tI, F1, hb⟩ := G.ini
  obtain ⟨ta, pa, ha⟩ := ha
  refine ⟨_, ps_raise hc tk (pmk_oexG G.T iC tI F1 (hr.mono hk) hb tk hg G.g pa hdb he rfl), fun ρ S io F σ H D st en h => ?_⟩
  show ta σ H _
  refine ha ρ S io F σ H _ st en (RS.go en h fun ds S1 io1 F1 H1 vs e1 n1 s1 r1 h1 => ?_)
  match ds, r1, h1 with
  | [d], ⟨v, w, e1, rd, e2⟩, h1 =>
    have e2 : w = [] := e2
    subst e2; subst e1
    dsimp only at h1
    refine ⟨by simp, fun a hna => ⟨a, v, rfl, upd_same, fun dx hdx hne => ⟨rfl, dx, [(f, v)], upd_same, ?_, ?_, ?_⟩⟩⟩
    · rw [upd_ne hne, upd_same]
    · rw [upd_ne hne] at hdx
      exact hdx
    · rw [upd_ne hne] at hdx
      have hH : upd (del (upd (upd (upd H1 a (exo a (He.ga X.K c) none)) dx (exd dx [(f, v)])) a (exo a (He.ga X.K c) (some dx))) a) dx (.xd [(f, v)]) = upd H1 dx (.xd [(f, v)]) := by
        funext b
        by_cases q : b = dx
        · subst q
          rw [upd_same, upd_same]
        · rw [upd_ne q, upd_ne q]
          by_cases q2 : b = a
          · subst q2
            rw [del_same, hna]
          · rw [del_ne q2, upd_ne q2, upd_ne q, upd_ne q2]
      rw [hH]
      cases q4 : frz d S1 with
      | bad => rw [q4] at h1; exact h1.elim
      | exc c x S => exact absurd q4 (frz_nox _ _ _ _ _)
      | ok x S2 =>
        rw [q4] at h1
        obtain ⟨x', S2', F2, n2, s2, rp, hz, _⟩ := s1.frz (C := Vl) (D := V) (R' := RepA X.K) (g := fun _ S => .ok (.p .non) S) (Q := fun _ _ => True) (E := fun _ _ _ => True) rd (by rw [q4]; exact fun _ _ _ _ _ _ _ => trivial)
        rw [q4] at hz; cases hz
        obtain ⟨s3, n3⟩ := s2.froze (o := .xd [(f, v)]) hdx
        exact h1 io1 _ _ (some dx) σ (n2.trans n3) s3 (((en.nxt n1).nxt n2).nxt n3) ⟨dx, [(f, v)], rfl, upd_same, rfl, RepL.mono n3.fr (.cons rp .nil)⟩
  | [], _, h1 => exact h1.elim
  | _ :: _ :: _, _, h1 => exact h1.elim
end Mir

namespace Mir
open PySem PySem.Spec PyProof.Rows
abbrev Cls1 := Value × Option Nat × (Addr → Value → Option Addr → L2.TS)
def slotO (i : Option Nat) (v : Option L2.V) (σ : L2.St) : L2.St := match i with
  | some i => σ.set i v
  | none => σ
def wMas (K : PySem.W.Frag) (Wout : L2.WX) (D : L2.Ends) : List Cls1 → L2.WX
  | [] => Wout
  | (c, i, ts) :: r => fun cls d σ H => ∃ b, PySem.W.exmOne K cls c = some b ∧
      (b = true → ∀ a, H a = none → ts a cls d { nx := fun σ' H' => D.nx (slotO i none σ') H', rt := D.rt, bk := fun σ' H' => D.bk (slotO i none σ') H', ct := fun σ' H' => D.ct (slotO i none σ') H' } (slotO i (some (.ref a)) σ) H) ∧
      (b = false → wMas K Wout D r cls d σ H)
inductive HdsA (X : L2.Cx) : List ExceptHandler → List Cls1 → Prop
  | nil : HdsA X [] []
  | cons {x : Str} {c : Value} {ts : Addr → Value → Option Addr → L2.TS} {b₀ : Stmt} {suite : List Stmt} {np pos' : Pos} {hds : List ExceptHandler} {l : List Cls1} (hc : L2.Names X x c)
      (hsu : ∀ (a : Addr) (oe : Obj) (cls : Value) (d : Option Addr) (pn : List (Addr × Obj)), L2.Zc cls d oe → (∃ vs, oe.data = .fields vs) → L2.PSs (X.suite a ((a, oe) :: pn)) (b₀ :: suite) (ts a cls d)) (r : HdsA X hds l) :
      HdsA X (.ExceptHandler (some (.Name x np)) none (b₀ :: suite) pos' :: hds) ((c, none, ts) :: l)
  | as_ {x n : Str} {i : Nat} {c : Value} {ts : Addr → Value → Option Addr → L2.TS} {b₀ : Stmt} {suite : List Stmt} {np pos' : Pos} {hds : List ExceptHandler} {l : List Cls1} (hc : L2.Names X x c) (hN : X.N.Nodup) (hi : X.N[i]? = some n) (hln : X.env.kindOf n = some .local)
      (hsu : ∀ (a : Addr) (oe : Obj) (cls : Value) (d : Option Addr) (pn : List (Addr × Obj)), L2.Zc cls d oe → (∃ vs, oe.data = .fields vs) → L2.PSs (X.suite a ((a, oe) :: pn)) (b₀ :: suite) (ts a cls d)) (r : HdsA X hds l) :
      HdsA X (.ExceptHandler (some (.Name x np)) (some n) (b₀ :: suite) pos' :: hds) ((c, some i, ts) :: l)
  | tup {x1 x2 x3 n : Str} {i kk : Nat} {c1 c2 c3 : Value} {ts : Addr → Value → Option Addr → L2.TS} {b₀ : Stmt} {suite : List Stmt} {p1 p2 p3 np pos' : Pos} {hds : List ExceptHandler} {l : List Cls1} (hc1 : L2.Names X x1 c1) (hc2 : L2.Names X x2 c2) (hc3 : L2.Names X x3 c3)
      (e1 : PySem.W.exmOne X.K c1 c1 = some true) (e2 : PySem.W.exmOne X.K c2 c2 = some true) (e3 : PySem.W.exmOne X.K c3 c3 = some true) (hN : X.N.Nodup) (hi : X.N[i]? = some n) (hln : X.env.kindOf n = some .local)
      (hsu : ∀ (a : Addr) (oe : Obj) (cls : Value) (d : Option Addr) (pn : List (Addr × Obj)), L2.Zc cls d oe → (∃ vs, oe.data = .fields vs) → L2.PSs (X.suite a ((a, oe) :: pn)) (b₀ :: suite) (ts a cls d)) (r : HdsA X hds l) :
      HdsA X (.ExceptHandler (some (.Tuple [.Name x1 p1, .Name x2 p2, .Name x3 p3] kk np)) (some n) (b₀ :: suite) pos' :: hds) ((c1, some i, ts) :: (c2, some i, ts) :: (c3, some i, ts) :: l)
theorem flyZ_keeps {B : Heap} {l : List PySem.Env} {a : Addr} {Z : Obj → Prop} {h h' : Heap} (R : HandSPX.FlyingZ B l a Z h) (k : ∀ b o, h.get? b = some o → h'.get? b = some o) : HandSPX.FlyingZ B l a Z h' := by
  obtain ⟨k1, k2, k3, oe, vs, T, oT, ts', he, hz, hd, h1, hn, hne, hT, hr⟩ := R
  exact ⟨fun b o q => k b o (k1 b o q), k2, k3.of_keeps fun b o q _ => ⟨o, k b o q, rfl⟩, oe, vs, T, oT, ts', k _ _ he, hz, hd, h1, hn, hne, k _ _ hT, hr⟩
end Mir
namespace PySem.W
open PySem PySem.Spec PySem.Calls PyProof.Rows
theorem exm_first3 {M : Model} {K : Frag} {c1 c2 c3 cls : Value} {tp e : Addr} {b : Bool} {h : Heap} (X : K.In h) (LT : Looks M h (typeOf (.ref e)) cls) (hp : h.get? tp = some { cls := .type "tuple", data := .seq [c1, c2, c3].toArray })
    (e1 : exmOne K c1 c1 = some true) (e2 : exmOne K c2 c2 = some true) (e3 : exmOne K c3 c3 = some true)
    (hx : (exmOne K cls c1 = some true ∧ b = true) ∨ (exmOne K cls c1 = some false ∧ exmOne K cls c2 = some true ∧ b = true) ∨ (exmOne K cls c1 = some false ∧ exmOne K cls c2 = some false ∧ exmOne K cls c3 = some b)) :
    Looks M h (excMatches (.ref e) (.ref tp)) b := by
  intro A Q E s k₀ q
  obtain ⟨hh, g, d, tk, os⟩ := s
  have k : ∀ b o, h.get? b = some o → hh.get? b = some o := k₀
  have LT0 : Looks M h (isInstance (.ref tp) (.type "tuple")) true := ((Looks.ld hp).andThen .now).andThen (Looks.of_pure isSubtype_tuple_tuple)
  obtain ⟨f1, _⟩ := exm_cls (M := M) X e1
  have f1 := f1.keeps k
  obtain ⟨f2, _⟩ := exm_cls (M := M) X e2
  have f2 := f2.keeps k
  obtain ⟨f3, _⟩ := exm_cls (M := M) X e3
  have f3 := f3.keeps k
  have LT := LT.keeps k
  have LT0 := LT0.keeps k
  have hp' := k _ _ hp
  unfold excMatches
  refine wpAny_bind (LT0.at ?_)
  dsimp only
  rw [if_pos rfl]
  first
    | refine wpAny_bind (wpAny_seqItems hp' rfl ?_)
    | refine wpAny_bind (wpAny_bind (wpAny_seqItems hp' rfl (wpAny_pure ?_)))
  dsimp only [Option.getD_some, Option.getD]
  rcases hx with ⟨x1, rfl⟩ | ⟨x1, x2, rfl⟩ | ⟨x1, x2, x3⟩
  · have S1 := (exm_cls (M := M) X x1).2.keeps k
    ((repeat (first | simp only [List.forIn_cons, List.forIn_nil, Bool.not_true, Bool.false_eq_true, if_false, if_true] | lk)); exact q)
  · have S1 := (exm_cls (M := M) X x1).2.keeps k
    have S2 := (exm_cls (M := M) X x2).2.keeps k
    ((repeat (first | simp only [List.forIn_cons, List.forIn_nil, Bool.not_true, Bool.false_eq_true, if_false, if_true] | lk)); exact q)
  · have S1 := (exm_cls (M := M) X x1).2.keeps k
    have S2 := (exm_cls (M := M) X x2).2.keeps k
    have S3 := (exm_cls (M := M) X x3).2.keeps k
    cases b <;> ((repeat (first | simp only [List.forIn_cons, List.forIn_nil, Bool.not_true, Bool.false_eq_true, if_false, if_true] | lk)); exact q)
end PySem.W
namespace L2
open PySem PySem.Spec PyProof.Rows
section
variable {X : Cx} {body : List Stmt} {h₀ : ExceptHandler} {hds : List ExceptHandler} {l : List Mir.Cls1} {pos : Pos} {tb : WX → TS} {Wout : WX}
theorem ps_try_mas (hs : X.stack = X.env :: X.outer) (hf : X.env.frame = some X.env.locals) (tk : Takes X Wout)
    (hb : ∀ (W : WX) (pn : List (Addr × Obj)) (xe : Value → Shared → Prop), Takes (X.tr pn xe) W → PassesOwn (model X.prog X.w) X.A X.env xe → PSs (X.tr pn xe) body (tb W))
    (hh : Mir.HdsA X (h₀ :: hds) l) : PS X (.Try body (h₀ :: hds) [] [] pos) (fun D σ H => tb (Mir.wMas X.K Wout D l) D σ H) := by
  refine ⟨fun pins s σ H D I h => ?_⟩
  have ok := I.ok
  have hfr : X.A.frames = some (X.env :: X.outer) := by rw [ok.frames, hs]
  refine wpAny_Try_except ?_
  refine wpAny_mono ((hb (Mir.wMas X.K Wout D l) (X.pn ++ pins) (fun e s₁ => wpAny (model X.prog X.w) X.A (noteFrame e X.env) (fun _ s₂ => wpAny (model X.prog X.w) X.A (setFlight e none) (fun _ s₃ =>
    wpAny (model X.prog X.w) X.A (handleBy e X.env (h₀ :: hds)) (SP X pins D) X.xe s₃) X.xe s₂) X.xe s₁) (fun u s' xx => ?_) PassesOwn.looking).run [] s σ H D (I.toTry _) h) (fun f s1 hsp => ?_) (fun e s1 he => he)
  · obtain ⟨a, B, sI, pins', σ', H', cls, d, rfl, J', nb, up, sky, na, os, ag, w⟩ := xx
    have J : Inv X pins σ' H' sI := J'.ofTry ok
    have sky' : Sky B (X.env :: X.outer) a (Zc cls d) X.env.locals s'.heap := by rw [← hs]; exact sky
    show wpAny (model X.prog X.w) X.A (noteFrame (.ref a) X.env) _ _ _
    refine Sky.land Zc.steady hfr hf sky' fun h3 fl3 up3 => ?_
    have pre : ∀ (h3 : Heap) (fl3 : HandSPX.FlyingZ B (X.env :: X.outer) a (Zc cls d) h3) (up3 : s'.heap.UpToSlots h3), Inv X pins σ' H' { s' with heap := h3 } ∧ a ≠ X.env.locals ∧ a ∉ X.fs ∧ PySem.W.Looks (model X.prog X.w) h3 (typeOf (.ref a)) cls ∧
        (∀ {x : Str} {c : Value} {np : Pos} {Q : Value → Shared → Prop} {E : Value → Shared → Prop}, Names X x c → Q c { s' with heap := h3 } → wpAny (model X.prog X.w) (X.A.mark (some (.ref a))) (eval (.Name x np) X.env) Q E { s' with heap := h3 }) := fun h3 fl3 up3 => by
      have J3 : Inv X pins σ' H' { s' with heap := h3 } := J.landed nb fl3.1 (up.trans up3) os ag
      obtain ⟨oe3, vs3, he3, hz3, hd3⟩ := fl3.there
      have notFr : ∀ {h : Heap} {o : Obj} {vs : Array Value}, h.FunFrames B (X.env :: X.outer) → h.get? a = some o → o.data = .fields vs → a ∉ frs (X.env :: X.outer) := fun {h o vs} ff e dd hm => by
        obtain ⟨_, o', e', hnf⟩ := ff.mem hm
        rw [e] at e'; cases e'
        exact hnf _ dd
      have nfr := notFr fl3.2.2.1 he3 hd3
      have nL : a ≠ X.env.locals := fun z => nfr (List.mem_filterMap.mpr ⟨X.env, List.mem_cons_self, by rw [hf, z]⟩)
      have nF : a ∉ X.fs := fun hm => by
        obtain ⟨e, he, q⟩ := List.mem_filterMap.mp hm
        exact nfr (List.mem_filterMap.mpr ⟨e, List.mem_cons_of_mem _ he, q⟩)
      have S3 := J3.suite he3 hd3 na nL nF
      refine ⟨J3, nL, nF, fun A Q E s k q => wpAny_typeOf_ref (k _ _ he3) (by rw [hz3.1]; exact q), fun {x c np Q E} hc q => ?_⟩
      obtain ⟨hg, hdbg, hm | ⟨hm, hv, hnn⟩⟩ := hc
      · exact ld_glob (X := X.suite a ((a, oe3) :: (X.pn ++ pins))) S3 hg hm q hdbg
      · exact ld_blt (X := X.suite a ((a, oe3) :: (X.pn ++ pins))) S3 hg hm hv q hnn hdbg
    have go : ∀ {hds' : List ExceptHandler} {l' : List Mir.Cls1}, Mir.HdsA X hds' l' → ∀ (h3 : Heap) (fl3 : HandSPX.FlyingZ B (X.env :: X.outer) a (Zc cls d) h3) (up3 : s'.heap.UpToSlots h3), Mir.wMas X.K Wout D l' cls d σ' H' →
        wpAny (model X.prog X.w) X.A (handleBy (.ref a) X.env hds') (SP X pins D) X.xe { s' with heap := h3 } := by
      intro hds' l' hk
      induction hk with
      | nil =>
        intro h3 fl3 up3 w
        obtain ⟨J3, nL, nF, LT, test⟩ := pre h3 fl3 up3
        refine wpAny_handleBy_nil ?_
        obtain ⟨k1, k2, k3, oe, vs, T, oT, ts', he, hz, hd, h1, hr⟩ := id fl3
        unfold PySem.passOn
        refine wpAny_bind (wpAny_field he hd h1 ?_)
        rw [if_neg (show ¬ ((Value.ref T == Value.none) = true) from by simp)]
        have fin : wpAny (model X.prog X.w) X.A (setFlight (.ref a) X.env.frame) (fun _ s4 => wpAny (model X.prog X.w) X.A (throw (.ref a) : Sem Flow) (SP X pins D) X.xe s4) X.xe { s' with heap := h3 } := by
          rw [hf]
          refine HandSPX.setFlight_upZ fl3 fun h4 hh4 up4 => wpAny_throw (tk _ _ ?_)
          exact ⟨a, B, sI, pins, σ', H', cls, d, rfl, J, nb, (up.trans up3).trans up4, .inr (.inr (by rw [hs]; exact hh4)), na, os, ag, w⟩
        first
          | exact wpAny_bind (wpAny_pure (wpAny_bind fin))
          | exact wpAny_bind fin
      | @cons x c ts b₀ suite np pos' hds2 l2 hc hsu r ih =>
        intro h3 fl3 up3 w
        obtain ⟨J3, nL, nF, LT, test⟩ := pre h3 fl3 up3
        obtain ⟨b, hb1, hyes, hno⟩ := w
        refine wpAny_handleBy_cons (codeAny_handlers_test ?_) (by intro q; cases q)
        have LM := PySem.W.exm_one (M := model X.prog X.w) (J3.kIn) LT hb1
        refine test hc (LM.here ?_)
        cases b with
        | true =>
          refine codeAny_handlers_suite ?_
          refine HandSPX.lands_againZ fl3 fun h4 fl4 up4 => ?_
          have J4 : Inv X pins σ' H' { s' with heap := h4 } := J.landed nb fl4.1 ((up.trans up3).trans up4) os ag
          obtain ⟨oe4, vs4, he4, hz4, hd4⟩ := fl4.there
          have S4 := J4.suite he4 hd4 na nL nF
          refine wpAny_mono ((hsu a oe4 cls d (X.pn ++ pins) hz4 ⟨_, hd4⟩).run [] _ _ H' _ S4 (hyes rfl a na)) (fun f s6 hsp => ?_) (fun _ _ z => False.elim z)
          cases f with
          | next =>
            obtain ⟨σ6, H6, S6, q6⟩ := hsp
            exact ⟨_, _, S6.unsuite ok, q6⟩
          | brk =>
            obtain ⟨σ6, H6, S6, q6⟩ := hsp
            exact ⟨_, _, S6.unsuite ok, q6⟩
          | cont =>
            obtain ⟨σ6, H6, S6, q6⟩ := hsp
            exact ⟨_, _, S6.unsuite ok, q6⟩
          | ret u =>
            obtain ⟨v6, σ6, H6, S6, r6, q6⟩ := hsp
            exact ⟨_, _, _, S6.unsuite ok, r6, q6⟩
        | false =>
          show wpAny _ X.A (handleBy (.ref a) X.env hds2) _ _ _
          exact ih h3 fl3 up3 (hno rfl)
      | @as_ x n i c ts b₀ suite np pos' hds2 l2 hc hN hi hln hsu r ih =>
        intro h3 fl3 up3 w
        obtain ⟨J3, nL, nF, LT, test⟩ := pre h3 fl3 up3
        obtain ⟨b, hb1, hyes, hno⟩ := w
        have hloc : Loc X.env.scope n := .inl hln
        refine wpAny_handleBy_cons (codeAny_handlers_test ?_) (by intro q; cases q)
        have LM := PySem.W.exm_one (M := model X.prog X.w) (J3.kIn) LT hb1
        refine test hc (LM.here ?_)
        cases b with
        | true =>
          refine codeAny_handlers_suite_as ?_
          refine HandSPX.lands_againZ fl3 fun h4 fl4 up4 => ?_
          have J4 : Inv X pins σ' H' { s' with heap := h4 } := J.landed nb fl4.1 ((up.trans up3).trans up4) os ag
          obtain ⟨oe4, vs4, he4, hz4, hd4⟩ := fl4.there
          have S4 := J4.suite he4 hd4 na nL nF
          refine store_ok (X := X.suite a ((a, oe4) :: (X.pn ++ pins))) (v := .ref a) S4 hN hi hloc rfl (fun s5 S5 => ?_) (.inr hln)
          refine wpAny_mono ((hsu a oe4 cls d (X.pn ++ pins) hz4 ⟨_, hd4⟩).run [] s5 _ H' _ S5 (hyes rfl a na)) (fun f s6 hsp => ?_) (fun _ _ z => False.elim z)
          have end_ : ∀ {σ6 : L2.St} {H6 : Hp} {Q : Shared → Prop}, Inv (X.suite a ((a, oe4) :: (X.pn ++ pins))) [] σ6 H6 s6 → (∀ s7, Inv X pins (σ6.set i none) H6 s7 → Q s7) →
              wpAny (model X.prog X.w) X.A (do bindName X.env n .none; unbindBehindTheSuite X.env n pos') (fun _ s7 => Q s7) X.xe s6 := fun {σ6 H6 Q} S6 hq => gone_ok (S6.unsuite ok) hN hi hln hq
          cases f with
          | next =>
            obtain ⟨σ6, H6, S6, q6⟩ := hsp
            exact end_ S6 fun s7 J7 => ⟨_, _, J7, q6⟩
          | brk =>
            obtain ⟨σ6, H6, S6, q6⟩ := hsp
            exact end_ S6 fun s7 J7 => ⟨_, _, J7, q6⟩
          | cont =>
            obtain ⟨σ6, H6, S6, q6⟩ := hsp
            exact end_ S6 fun s7 J7 => ⟨_, _, J7, q6⟩
          | ret u =>
            obtain ⟨v6, σ6, H6, S6, r6, q6⟩ := hsp
            exact end_ S6 fun s7 J7 => ⟨_, _, _, J7, r6, q6⟩
        | false =>
          show wpAny _ X.A (handleBy (.ref a) X.env hds2) _ _ _
          exact ih h3 fl3 up3 (hno rfl)
      | @tup x1 x2 x3 n i kk c1 c2 c3 ts b₀ suite p1 p2 p3 np pos' hds2 l2 hc1 hc2 hc3 e1 e2 e3 hN hi hln hsu r ih =>
        intro h3 fl3 up3 w
        obtain ⟨J3, nL, nF, LT, test⟩ := pre h3 fl3 up3
        have ww : ∃ b, ((PySem.W.exmOne X.K cls c1 = some true ∧ b = true) ∨ (PySem.W.exmOne X.K cls c1 = some false ∧ PySem.W.exmOne X.K cls c2 = some true ∧ b = true) ∨ (PySem.W.exmOne X.K cls c1 = some false ∧ PySem.W.exmOne X.K cls c2 = some false ∧ PySem.W.exmOne X.K cls c3 = some b)) ∧
            (b = true → ∀ a, H' a = none → ts a cls d { nx := fun σ1 H1 => D.nx (Mir.slotO (some i) none σ1) H1, rt := D.rt, bk := fun σ1 H1 => D.bk (Mir.slotO (some i) none σ1) H1, ct := fun σ1 H1 => D.ct (Mir.slotO (some i) none σ1) H1 } (Mir.slotO (some i) (some (.ref a)) σ') H') ∧ (b = false → Mir.wMas X.K Wout D l2 cls d σ' H') := by
          obtain ⟨b1, q1, y1, n1⟩ := w
          cases b1 with
          | true => exact ⟨true, .inl ⟨q1, rfl⟩, y1, fun z => (by cases z)⟩
          | false =>
            obtain ⟨b2, q2, y2, n2⟩ := n1 rfl
            cases b2 with
            | true => exact ⟨true, .inr (.inl ⟨q1, q2, rfl⟩), y2, fun z => (by cases z)⟩
            | false =>
              obtain ⟨b3, q3, y3, n3⟩ := n2 rfl
              exact ⟨b3, .inr (.inr ⟨q1, q2, q3⟩), y3, n3⟩
        obtain ⟨b, hb1, hyes, hno⟩ := ww
        have hloc : Loc X.env.scope n := .inl hln
        refine wpAny_handleBy_cons (codeAny_handlers_test ?_) (by intro q; cases q)
        refine wpAny_Tuple ?_
        refine wpAny_items_cons (test hc1 ?_)
        refine wpAny_items_cons (test hc2 ?_)
        refine wpAny_items_cons (test hc3 ?_)
        refine wpAny_items_nil ⟨by size_fits, ?_⟩
        have kp : ∀ q o, h3.get? q = some o → (h3.push { cls := .type "tuple", data := .seq [c1, c2, c3].toArray }).get? q = some o := fun _ _ z => Heap.get?_push_of_some _ z
        have LM := PySem.W.exm_first3 (M := model X.prog X.w) (PySem.W.Frag.In.keeps J3.kIn kp) (LT.keeps kp) (Heap.get?_push_size h3 rfl) e1 e2 e3 hb1
        have fl3' := Mir.flyZ_keeps fl3 kp
        have up3' := up3.trans (Heap.UpToSlots.of_keeps kp)
        refine LM.here ?_
        cases b with
        | true =>
          refine codeAny_handlers_suite_as ?_
          refine HandSPX.lands_againZ fl3' fun h4 fl4 up4 => ?_
          have J4 : Inv X pins σ' H' { s' with heap := h4 } := J.landed nb fl4.1 ((up.trans up3').trans up4) os ag
          obtain ⟨oe4, vs4, he4, hz4, hd4⟩ := fl4.there
          have S4 := J4.suite he4 hd4 na nL nF
          refine store_ok (X := X.suite a ((a, oe4) :: (X.pn ++ pins))) (v := .ref a) S4 hN hi hloc rfl (fun s5 S5 => ?_) (.inr hln)
          refine wpAny_mono ((hsu a oe4 cls d (X.pn ++ pins) hz4 ⟨_, hd4⟩).run [] s5 _ H' _ S5 (hyes rfl a na)) (fun f s6 hsp => ?_) (fun _ _ z => False.elim z)
          have end_ : ∀ {σ6 : L2.St} {H6 : Hp} {Q : Shared → Prop}, Inv (X.suite a ((a, oe4) :: (X.pn ++ pins))) [] σ6 H6 s6 → (∀ s7, Inv X pins (σ6.set i none) H6 s7 → Q s7) →
              wpAny (model X.prog X.w) X.A (do bindName X.env n .none; unbindBehindTheSuite X.env n pos') (fun _ s7 => Q s7) X.xe s6 := fun {σ6 H6 Q} S6 hq => gone_ok (S6.unsuite ok) hN hi hln hq
          cases f with
          | next =>
            obtain ⟨σ6, H6, S6, q6⟩ := hsp
            exact end_ S6 fun s7 J7 => ⟨_, _, J7, q6⟩
          | brk =>
            obtain ⟨σ6, H6, S6, q6⟩ := hsp
            exact end_ S6 fun s7 J7 => ⟨_, _, J7, q6⟩
          | cont =>
            obtain ⟨σ6, H6, S6, q6⟩ := hsp
            exact end_ S6 fun s7 J7 => ⟨_, _, J7, q6⟩
          | ret u =>
            obtain ⟨v6, σ6, H6, S6, r6, q6⟩ := hsp
            exact end_ S6 fun s7 J7 => ⟨_, _, _, J7, r6, q6⟩
        | false =>
          show wpAny _ X.A (handleBy (.ref a) X.env hds2) _ _ _
          exact ih _ fl3' up3' (hno rfl)
    exact go hh h3 fl3 up3 w
  · cases f with
    | next =>
      obtain ⟨σ', H', J', q⟩ := hsp
      exact wpAny_execs_nil ⟨σ', H', J'.ofTry ok, q⟩
    | brk =>
      obtain ⟨σ', H', J', q⟩ := hsp
      exact ⟨σ', H', J'.ofTry ok, q⟩
    | cont =>
      obtain ⟨σ', H', J', q⟩ := hsp
      exact ⟨σ', H', J'.ofTry ok, q⟩
    | ret u =>
      obtain ⟨v, σ', H', J', r, q⟩ := hsp
      exact ⟨v, σ', H', J'.ofTry ok, r, q⟩
end
end L2

namespace PySem.W
open PySem PySem.Spec PySem.Calls PyProof.Rows
section
variable {prog : Program} {w : World} {A : Around} {E : Value → Shared → Prop} {s : Shared} {K : Frag} {x D : Addr} {ox : Obj} {od : Option Obj}
theorem findObj_dataO {C : Addr} {name : Str} {a g : Value} (hc : (clsIn K C).isSome = true) (ha : findIn K (.ref C) name = some (some a)) (hg : specialIn K a "__get__" = some (some g)) (ht : takesIn K a = some true) : findObj K C od name = some (.bind g a) := by
  obtain ⟨cd, hc⟩ := Option.isSome_iff_exists.mp hc
  unfold findObj
  rw [hc, Option.bind_some, ha, Option.bind_some]
  simp [hg, ht]
theorem kin_classX {Q : Option Value → Shared → Prop} (C : L2.ExcC K D) (X : K.In s.heap) (I : InstAt s.heap x ox D od) (h : Q (some (.ref D)) { s with toks := s.toks + 1 }) : wpAny (model prog w) A (getAttr? (.ref x) "__class__") Q E s := by
  have hf : findObj K D od "__class__" = some (.bind (.builtin "getset_descriptor.__get__") (.builtin "object.__class__")) := findObj_dataO (by obtain ⟨cd, hc, _⟩ := any_some C.hd; rw [hc]; rfl) C.ha C.hn C.ht
  obtain ⟨hp, g, d, t, os⟩ := s
  have L0 := I.type (M := model prog w)
  have L1 := looks_findIn (M := model prog w) X C.hg
  have L2 := looks_findIn (M := model prog w) X C.hk
  have L3 := looks_find (M := model prog w) X I hf
  have sub : Looks (model prog w) hp (isInstance (.ref x) (.type "BaseException")) true := L0.andThen (looks_subIn X C.hs)
  have hx0 : (false && onTheHeap (Value.builtin "BaseException.__getattribute__")) = false := rfl
  have hx2 : (Value.builtin "BaseException.__getattribute__" == Value.builtin "object.__getattribute__") = false := by decide +kernel
  have hx1 : (onTheHeap (Value.ref D) && Value.builtin "BaseException.__getattribute__" == Value.builtin "object.__getattribute__") = false := by rw [hx2]; rfl
  unfold getAttr? getAttrBy? getAttrBy
  refine wpAny_bind (wpAny_mkText (wpAny_bind (wpAny_attempt (wpAny_holding (wpAny_bind (L0.at (wpAny_bind (L1.at ?_))))))))
  show wpAny _ _ (if (onTheHeap (Value.ref D) && Value.builtin "BaseException.__getattribute__" == Value.builtin "object.__getattribute__") = true then _ else _) _ _ _
  rw [hx1, if_neg Bool.false_ne_true]
  unfold getAttrByItsOwn hookBefore
  refine wpAny_bind ?_
  rw [if_pos (show onTheHeap (Value.ref D) = true from rfl)]
  refine L2.at ?_
  refine wpAny_bind (wpAny_attempt (wpAny_holding ?_))
  unfold callGetattribute
  rw [hx0, if_neg Bool.false_ne_true]
  unfold boundAndCalled
  rw [PySem.F.excAttr_ValueError.ga.bind (.ref x)]
  refine wpAny_bind (wpAny_pure ?_)
  show wpAny _ _ (call (.builtin "BaseException.__getattribute__") [.ref x, .str "__class__" t]) _ _ _
  refine wpAny_call (codeAny_call_builtin PySem.F.excAttr_ValueError.ga.plain PySem.F.entry_bexc_ga ?_)
  refine @check_slot (model prog w) _ _ ⟨hp, g, d, t + 1, os⟩ "BaseException.__getattribute__" "BaseException" "__getattribute__" (.ref x) [.str "__class__" t] [] _ (by decide +kernel) (by decide +kernel) sub (PySem.F.args_bexc_ga (.ref x) (.str "__class__" t)) ?_
  unfold Builtin.«object.__getattribute__»
  refine wpAny_bind (wpAny_of_eq (a := ((Value.ref x : Value), [Value.str "__class__" t])) (by first | rfl | (simp only [slotArgs]; rfl)) ?_)
  refine wpAny_bind (wpAny_pure (wpAny_bind (L0.at (wpAny_bind (L3.at ?_)))))
  show wpAny _ _ (holding [Value.builtin "object.__class__"] (call (.builtin "getset_descriptor.__get__") [.builtin "object.__class__", .ref x, .ref D]) >>= ret) _ _ _
  refine wpAny_bind (wpAny_holding (wpAny_call (class_get (s := ⟨hp, g, d, t + 1, os⟩) (ox := ox) (od := od) X I C.hm ?_)))
  refine wpAny_pure ?_
  show wpAny _ _ (handedOut (.ref D)) _ _ _
  rw [handedOut_of (v := .ref D) rfl]
  first
    | exact wpAny_pure (wpAny_pure h)
    | exact wpAny_pure h
    | exact wpAny_pure (wpAny_bind (wpAny_pure (wpAny_pure h)))
theorem kitx_X (C : L2.ExcC K D) : KitX K (.ref x) (.ref D) (fun h => InstAt h x ox D od) where
  ty := fun _ _ _ I => I.type
  it := fun _ _ X _ => by
    obtain ⟨cdD, hcD, _⟩ := any_some C.hd
    unfold clsIn at hcD
    split at hcD
    · rename_i c' d' cd' sl' ho
      intro A' Q' E' s' k q
      unfold isType loadHead
      exact wpAny_bind (wpAny_loadPart (k _ _ (X _ _ ho)) (wpAny_pure q))
    · cases hcD
  ne := fun h tp dd its n sl X htp => by
    obtain ⟨cdD, hcD, _⟩ := any_some C.hd
    refine Bool.eq_false_iff.mpr fun q => ?_
    have e : D = tp := Value.ref.inj (beq_iff_eq.mp q)
    subst e
    unfold clsIn at hcD
    split at hcD
    · rename_i c' d' cd' sl' ho
      have z := (X _ _ ho).symm.trans htp
      cases z
    · cases hcD
  ca := fun X I k => kin_classX C X I k
end
end PySem.W
namespace Mir
open PySem L2
def rIsX (K : PySem.W.Frag) (D a : Addr) (d : Option Addr) : List V → Hp → VK → Prop := fun xs H Q => ∃ (c : V) (cv : Value) (b : Bool), xs = [.ref a, c] ∧ (∀ u, L2.RelV c u → u = cv) ∧ PySem.W.kitOne K (.ref D) cv = some b ∧ (∃ dd fs, d = some dd ∧ H dd = some (.xd fs)) ∧ Q (.bl b) H
theorem call_isX {X : Cx} {a D : Addr} {oe : Obj} {d : Option Addr} {pn : List (Addr × Obj)} (C : ExcC X.K D) (hz : Zc (.ref D) d oe) (hf : ∃ vs, oe.data = .fields vs) : CallR (X.suite a ((a, oe) :: pn)) (.builtin "isinstance") (rIsX X.K D a d) := by
  intro pins s σ H xs us Q I r h
  obtain ⟨c, cv, b, rfl, hcv, e, ⟨dd, fs, ed, ea⟩, q⟩ := h
  cases r with
  | cons rx rr =>
    cases rr with
    | cons rt rr =>
      cases rr
      cases rx
      have ec := hcv _ rt
      subst ec
      obtain ⟨hget, _⟩ := I.pin (a, oe) (List.mem_append.mpr (.inl List.mem_cons_self))
      obtain ⟨vs, hv⟩ := hf
      have hx : ObjOk X.prog X.w H s.heap dd (.xd fs) := I.hok dd _ ea
      obtain ⟨mA, hns, hr⟩ := hx
      obtain ⟨od, ho, hl⟩ := lookIn_ns hns
      subst ed
      have J : PySem.W.InstAt s.heap a oe D (some od) := ⟨hget, hz.1, by unfold PySem.W.notCls; rw [hv] <;> rfl, by rw [hz.2]; exact ho⟩
      exact PySem.W.kia_one (PySem.W.kitx_X C) I.kIn J e (fun z => nomatch z) fun tk => ⟨.bl b, H, I.kept (t' := tk) fun _ _ z => z, rfl, q⟩
end Mir

namespace Mir
open PySem L2
abbrev MX := Str → XD → MS
abbrev Sb := List (Str × Str × Bool)
def sbAt (T : Sb) (c h : Str) : Option Bool := (T.find? fun q => q.1 == c && q.2.1 == h).map (·.2.2)
def SbOk (K : PySem.W.Frag) (T : Sb) : Prop := ∀ q ∈ T, PySem.W.exmOne K (.ref (He.ga K q.1)) (.ref (He.ga K q.2.1)) = some q.2.2
theorem sb_ok {K : PySem.W.Frag} {T : Sb} {c h : Str} {b : Bool} (ok : SbOk K T) (e : sbAt T c h = some b) : PySem.W.exmOne K (.ref (He.ga K c)) (.ref (He.ga K h)) = some b := by
  unfold sbAt at e
  cases q : T.find? fun q => q.1 == c && q.2.1 == h with
  | none => rw [q] at e; cases e
  | some r =>
    rw [q] at e
    have e : r.2.2 = b := Option.some.inj e
    have hp := List.find?_some q
    have hm := List.mem_of_find?_eq_some q
    rw [Bool.and_eq_true, beq_iff_eq, beq_iff_eq] at hp
    have := ok r hm
    rw [hp.1, hp.2, e] at this
    exact this
def unE (i : Option Nat) (ρ : En) : En := match i with
  | some i => ρ.set i none
  | none => ρ
def hasE (i : Option Nat) (ρ : En) : Bool := match i with
  | some i => decide (i < ρ.length)
  | none => true
def endH (i : Option Nat) (r : RF) : RF := match r with
  | .ok (.nx ρ) S => .ok (.nx (unE i ρ)) S
  | .ok (.bk ρ) S => .ok (.bk (unE i ρ)) S
  | .ok (.ct ρ) S => .ok (.ct (unE i ρ)) S
  | .ok (.rt d) S => .ok (.rt d) S
  | _ => .bad
def tryGo (T : Sb) : List (Str × Option Nat × MX) → En → Str → XD → Sto → RF
  | [], ρ, c, x, S => .ok (.xc ρ c x) S
  | (h, i, m) :: r, ρ, c, x, S => match sbAt T c h with
    | some true => if hasE i ρ = true then endH i (m c x (unE i ρ) S) else .bad
    | some false => tryGo T r ρ c x S
    | none => .bad
def sTry (T : Sb) (b : MS) (hs : List (Str × Option Nat × MX)) : MS := fun ρ S => match b ρ S with
  | .ok (.xc ρ1 c x) S1 => tryGo T hs ρ1 c x S1
  | r => r
def OX (X : Cx) (i : Option Nat) (suite : List Stmt) (m : MX) : Prop := ∀ (a : Addr) (oe : Obj) (c : Str) (d : Option Addr) (pn : List (Addr × Obj)), Zc (.ref (He.ga X.K c)) d oe → (∃ vs, oe.data = .fields vs) →
  ∃ t, PSs (X.suite a ((a, oe) :: pn)) suite t ∧ ∀ (x : XD) (ρ : En) (S : Sto) (io : Io) (F : Hp) (σ : L2.St) (H : Hp) (D : Ends), Sta X.K io F S H → Mir.Env X.K io F ρ σ → (∀ j, i = some j → σ[j]? = some (some (.ref a))) → XRep X.K F H x d →
    RS X.K (m c x ρ S) io F H D W0 → t D σ H
def tX (K : PySem.W.Frag) (i : Option Nat) (m : MX) (a : Addr) (cls : Value) (d : Option Addr) : TS := fun D σ H => ∃ (c : Str) (x : XD) (ρ : En) (S : Sto) (io : Io) (F : Hp), cls = .ref (He.ga K c) ∧ Sta K io F S H ∧ Mir.Env K io F ρ σ ∧ (∀ j, i = some j → σ[j]? = some (some (.ref a))) ∧ XRep K F H x d ∧ RS K (m c x ρ S) io F H D W0
theorem OX.pss {X : Cx} {i : Option Nat} {suite : List Stmt} {m : MX} (h : OX X i suite m) (a : Addr) (oe : Obj) (cls : Value) (d : Option Addr) (pn : List (Addr × Obj)) (hz : Zc cls d oe) (hf : ∃ vs, oe.data = .fields vs) : PSs (X.suite a ((a, oe) :: pn)) suite (tX X.K i m a cls d) :=
  ⟨fun pins s σ H D I ⟨c, x, ρ, S, io, F, e, st, en, sl, xr, q⟩ => by
    subst e
    obtain ⟨t, p, ht⟩ := h a oe c d pn hz hf
    exact p.run pins s σ H D I (ht x ρ S io F σ H D st en sl xr q)⟩
inductive HdM (X : Cx) : List ExceptHandler → List (Str × Option Nat × MX) → Prop
  | nil : HdM X [] []
  | cons {x : Str} {m : MX} {b₀ : Stmt} {suite : List Stmt} {np pos' : Pos} {hds : List ExceptHandler} {l : List (Str × Option Nat × MX)} (hc : Names X x (.ref (He.ga X.K x))) (hx : OX X none (b₀ :: suite) m) (r : HdM X hds l) :
      HdM X (.ExceptHandler (some (.Name x np)) none (b₀ :: suite) pos' :: hds) ((x, none, m) :: l)
  | as_ {x n : Str} {i : Nat} {m : MX} {b₀ : Stmt} {suite : List Stmt} {np pos' : Pos} {hds : List ExceptHandler} {l : List (Str × Option Nat × MX)} (hc : Names X x (.ref (He.ga X.K x))) (hN : X.N.Nodup) (hi : X.N[i]? = some n) (hln : X.env.kindOf n = some .local)
      (hx : OX X (some i) (b₀ :: suite) m) (r : HdM X hds l) : HdM X (.ExceptHandler (some (.Name x np)) (some n) (b₀ :: suite) pos' :: hds) ((x, some i, m) :: l)
  | tup {x1 x2 x3 n : Str} {i kk : Nat} {m : MX} {b₀ : Stmt} {suite : List Stmt} {p1 p2 p3 np pos' : Pos} {hds : List ExceptHandler} {l : List (Str × Option Nat × MX)} (hc1 : Names X x1 (.ref (He.ga X.K x1))) (hc2 : Names X x2 (.ref (He.ga X.K x2))) (hc3 : Names X x3 (.ref (He.ga X.K x3)))
      (e1 : PySem.W.exmOne X.K (.ref (He.ga X.K x1)) (.ref (He.ga X.K x1)) = some true) (e2 : PySem.W.exmOne X.K (.ref (He.ga X.K x2)) (.ref (He.ga X.K x2)) = some true) (e3 : PySem.W.exmOne X.K (.ref (He.ga X.K x3)) (.ref (He.ga X.K x3)) = some true)
      (hN : X.N.Nodup) (hi : X.N[i]? = some n) (hln : X.env.kindOf n = some .local) (hx : OX X (some i) (b₀ :: suite) m) (r : HdM X hds l) :
      HdM X (.ExceptHandler (some (.Tuple [.Name x1 p1, .Name x2 p2, .Name x3 p3] kk np)) (some n) (b₀ :: suite) pos' :: hds) ((x1, some i, m) :: (x2, some i, m) :: (x3, some i, m) :: l)
theorem Env.len {K : PySem.W.Frag} {io : Io} {F : Hp} : ∀ {ρ : En} {σ : L2.St}, Mir.Env K io F ρ σ → σ.length = ρ.length
  | [], σ, h => by
    have h : σ = [] := h
    rw [h]
    rfl
  | d :: ρ, σ, h => by
    obtain ⟨o, r, e, _, t⟩ := h
    rw [e, List.length_cons, List.length_cons, Env.len t]
theorem endH_ok {K : PySem.W.Frag} {i : Option Nat} {r : RF} {io : Io} {F H : Hp} {D : Ends} {W : WX} (h : RS K (endH i r) io F H D W) :
    RS K r io F H { nx := fun σ' H' => D.nx (slotO i none σ') H', rt := D.rt, bk := fun σ' H' => D.bk (slotO i none σ') H', ct := fun σ' H' => D.ct (slotO i none σ') H' } W0 := by
  have key : ∀ {io' : Io} {F' : Hp} {ρ : En} {σ : L2.St}, Mir.Env K io' F' ρ σ → Mir.Env K io' F' (unE i ρ) (slotO i none σ) := fun {io' F' ρ σ} en => by
    cases i with
    | none => exact en
    | some i => exact en.unset i none
  cases r with
  | bad => exact h
  | ok f S =>
    cases f with
    | nx ρ => exact fun io' F' H' σ' n s en => h io' F' H' _ n s (key en)
    | bk ρ => exact fun io' F' H' σ' n s en => h io' F' H' _ n s (key en)
    | ct ρ => exact fun io' F' H' σ' n s en => h io' F' H' _ n s (key en)
    | rt d => exact h
    | xc ρ c x => exact h.elim
theorem hds_ok {X : Cx} {T : Sb} (ok : SbOk X.K T) {hds : List ExceptHandler} {hs : List (Str × Option Nat × MX)} (h : HdM X hds hs) : ∃ l, HdsA X hds l ∧ ∀ (ρ : En) (c : Str) (x : XD) (S : Sto) (io : Io) (F : Hp) (σ : L2.St) (H : Hp) (D : Ends) (d : Option Addr) (W : WX),
    Sta X.K io F S H → Mir.Env X.K io F ρ σ → XRep X.K F H x d → RS X.K (tryGo T hs ρ c x S) io F H D W → wMas X.K W D l (.ref (He.ga X.K c)) d σ H := by
  have step : ∀ {h0 : Str} {i : Option Nat} {m : MX} {l : List (Str × Option Nat × MX)} {l' : List Cls1}, (∀ (ρ : En) (c : Str) (x : XD) (S : Sto) (io : Io) (F : Hp) (σ : L2.St) (H : Hp) (D : Ends) (d : Option Addr) (W : WX),
      Sta X.K io F S H → Mir.Env X.K io F ρ σ → XRep X.K F H x d → RS X.K (tryGo T l ρ c x S) io F H D W → wMas X.K W D l' (.ref (He.ga X.K c)) d σ H) →
      ∀ (ρ : En) (c : Str) (x : XD) (S : Sto) (io : Io) (F : Hp) (σ : L2.St) (H : Hp) (D : Ends) (d : Option Addr) (W : WX),
      Sta X.K io F S H → Mir.Env X.K io F ρ σ → XRep X.K F H x d → RS X.K (tryGo T ((h0, i, m) :: l) ρ c x S) io F H D W → wMas X.K W D ((.ref (He.ga X.K h0), i, tX X.K i m) :: l') (.ref (He.ga X.K c)) d σ H := by
    intro h0 i m l l' ih ρ c x S io F σ H D d W st en xr hh
    have hh : RS X.K (match sbAt T c h0 with
      | some true => if hasE i ρ = true then endH i (m c x (unE i ρ) S) else .bad
      | some false => tryGo T l ρ c x S
      | none => .bad) io F H D W := hh
    cases q : sbAt T c h0 with
    | none => rw [q] at hh; exact hh.elim
    | some b =>
      rw [q] at hh
      refine ⟨b, sb_ok ok q, fun hb a na => ?_, fun hb => ?_⟩
      · subst hb
        dsimp only at hh
        by_cases he : hasE i ρ = true
        · rw [if_pos he] at hh
          refine ⟨c, x, unE i ρ, S, io, F, rfl, st, ?_, fun j hj => ?_, xr, endH_ok hh⟩
          · cases i with
            | none => exact en
            | some i => exact en.unset i _
          · subst hj
            have hlt : j < ρ.length := of_decide_eq_true he
            show (σ.set j (some (.ref a)))[j]? = _
            rw [List.getElem?_set_self (by rw [Env.len en]; exact hlt)]
        · rw [if_neg he] at hh
          exact hh.elim
      · subst hb
        exact ih ρ c x S io F σ H D d W st en xr hh
  induction h with
  | nil => exact ⟨[], .nil, fun ρ c x S io F σ H D d W st en xr h => h io F H d σ Nxt.refl st en xr⟩
  | cons hc hx r ih =>
    obtain ⟨l', hl, ih⟩ := ih
    exact ⟨_, .cons hc (fun a oe cls d pn hz hf => hx.pss a oe cls d pn hz hf) hl, step ih⟩
  | as_ hc hN hi hln hx r ih =>
    obtain ⟨l', hl, ih⟩ := ih
    exact ⟨_, .as_ hc hN hi hln (fun a oe cls d pn hz hf => hx.pss a oe cls d pn hz hf) hl, step ih⟩
  | tup hc1 hc2 hc3 e1 e2 e3 hN hi hln hx r ih =>
    obtain ⟨l', hl, ih⟩ := ih
    exact ⟨_, .tup hc1 hc2 hc3 e1 e2 e3 hN hi hln (fun a oe cls d pn hz hf => hx.pss a oe cls d pn hz hf) hl, step (step (step ih))⟩
def tSs (K : PySem.W.Frag) (m : MS) (W : WX) : TS := fun D σ H => ∃ (ρ : En) (S : Sto) (io : Io) (F : Hp), Sta K io F S H ∧ Mir.Env K io F ρ σ ∧ RS K (m ρ S) io F H D W
theorem os_try {X : Cx} {W : WX} {T : Sb} {body : List Stmt} {h₀ : ExceptHandler} {hds : List ExceptHandler} {hs : List (Str × Option Nat × MX)} {mb : MS} {pos : Pos} (ok : SbOk X.K T) (hst : X.stack = X.env :: X.outer) (hf : X.env.frame = some X.env.locals) (tk : Takes X W)
    (hb : ∀ (W' : WX) (pn : List (Addr × Obj)) (xe : Value → Shared → Prop), Takes (X.tr pn xe) W' → PassesOwn (model X.prog X.w) X.A X.env xe → OSs (X.tr pn xe) W' body mb)
    (hh : HdM X (h₀ :: hds) hs) : OS X W (.Try body (h₀ :: hds) [] [] pos) (sTry T mb hs) := by
  obtain ⟨l, hl, hw⟩ := hds_ok ok hh
  refine ⟨_, ps_try_mas (tb := tSs X.K mb) hst hf tk (fun W' pn xe tk' po => ⟨fun pins s σ H D I ⟨ρ, S, io, F, st, en, q⟩ => ?_⟩) hl, fun ρ S io F σ H D st en h => ⟨ρ, S, io, F, st, en, ?_⟩⟩
  · obtain ⟨t, p, ht⟩ := hb W' pn xe tk' po
    exact p.run pins s σ H D I (ht ρ S io F σ H D st en q)
  · have h : RS X.K (match mb ρ S with
      | .ok (.xc ρ1 c x) S1 => tryGo T hs ρ1 c x S1
      | r => r) io F H D W := h
    cases r : mb ρ S with
    | bad => rw [r] at h; exact h
    | ok f S1 =>
      rw [r] at h
      cases f with
      | nx ρ1 => exact h
      | rt d => exact h
      | bk ρ1 => exact h
      | ct ρ1 => exact h
      | xc ρ1 c x => exact fun io' F' H' d σ' n s en' xr => hw ρ1 c x S1 io' F' σ' H' D d W s en' xr (RS.step n h)
end Mir

namespace Mir
open PySem L2
theorem XRep.nxt {K : PySem.W.Frag} {io io1 : Io} {F F1 H H1 : Hp} {x : XD} {d : Option Addr} (n : Nxt io F H io1 F1 H1) (h : XRep K F H x d) : XRep K F1 H1 x d := by
  cases x with
  | none => exact h
  | some q =>
    obtain ⟨ns, xs⟩ := q
    obtain ⟨a, gs, e, ha, hn, r⟩ := h
    exact ⟨a, gs, e, n.fr _ _ ha, hn, RepL.mono n.fr r⟩
abbrev E0 : XK := fun _ _ _ => False
structure SX (K : PySem.W.Frag) (i : Nat) (a : Addr) (d : Option Addr) (x : XD) (F H : Hp) (σ : L2.St) : Prop where
  sl : σ[i]? = some (some (.ref a))
  xr : XRep K F H x d
theorem SX.nxt {K : PySem.W.Frag} {i : Nat} {a : Addr} {d : Option Addr} {x : XD} {io io1 : Io} {F F1 H H1 : Hp} {σ : L2.St} (s : SX K i a d x F H σ) (n : Nxt io F H io1 F1 H1) : SX K i a d x F1 H1 σ := ⟨s.sl, s.xr.nxt n⟩
section
variable (X : Cx) (i : Nat)
def OEX (e : Expr) (m : Str → XD → ME) : Prop := ∀ (a : Addr) (oe : Obj) (c : Str) (d : Option Addr) (pn : List (Addr × Obj)), Zc (.ref (He.ga X.K c)) d oe → (∃ vs, oe.data = .fields vs) →
  ∃ t, PE (X.suite a ((a, oe) :: pn)) e t ∧ ∀ (x : XD) (ρ : En) (S : Sto) (io : Io) (F : Hp) (σ : L2.St) (H : Hp) (Q : VK), Sta X.K io F S H → Mir.Env X.K io F ρ σ → SX X.K i a d x F H σ → RG X.K (RepA X.K) (m c x ρ S) io F H Q E0 → t σ H Q
def OTX (e : Expr) (m : Str → XD → MT) : Prop := ∀ (a : Addr) (oe : Obj) (c : Str) (d : Option Addr) (pn : List (Addr × Obj)), Zc (.ref (He.ga X.K c)) d oe → (∃ vs, oe.data = .fields vs) →
  ∃ t, PT (X.suite a ((a, oe) :: pn)) e t ∧ ∀ (x : XD) (ρ : En) (S : Sto) (io : Io) (F : Hp) (σ : L2.St) (H : Hp) (Q : Bool → Hp → Prop), Sta X.K io F S H → Mir.Env X.K io F ρ σ → SX X.K i a d x F H σ → RG X.K RepB (m c x ρ S) io F H Q E0 → t σ H Q
def OWX (e : Expr) (m : Str → XD → MT) : Prop := ∀ (a : Addr) (oe : Obj) (c : Str) (d : Option Addr) (pn : List (Addr × Obj)), Zc (.ref (He.ga X.K c)) d oe → (∃ vs, oe.data = .fields vs) →
  ∃ t, PW (X.suite a ((a, oe) :: pn)) e t ∧ ∀ (x : XD) (ρ : En) (S : Sto) (io : Io) (F : Hp) (σ : L2.St) (H : Hp) (Q : Bool → Hp → Prop), Sta X.K io F S H → Mir.Env X.K io F ρ σ → SX X.K i a d x F H σ → RG X.K RepB (m c x ρ S) io F H Q E0 → t σ H Q
def OAX (es : List Expr) (m : Str → XD → MA) : Prop := ∀ (a : Addr) (oe : Obj) (c : Str) (d : Option Addr) (pn : List (Addr × Obj)), Zc (.ref (He.ga X.K c)) d oe → (∃ vs, oe.data = .fields vs) →
  ∃ t, PA (X.suite a ((a, oe) :: pn)) es t ∧ ∀ (x : XD) (ρ : En) (S : Sto) (io : Io) (F : Hp) (σ : L2.St) (H : Hp) (Q : List V → Hp → Prop), Sta X.K io F S H → Mir.Env X.K io F ρ σ → SX X.K i a d x F H σ → RG X.K (RepAs X.K) (m c x ρ S) io F H Q E0 → t σ H Q
end
section
variable {X : Cx} {i : Nat} {e a b cc : Expr} {es : List Expr} {m ma mb : Str → XD → ME} {mt mu : Str → XD → MT} {mas : Str → XD → MA} {pos p : Pos}
theorem oex_of {m : ME} (h : ∀ (a : Addr) (oe : Obj) (pn : List (Addr × Obj)), OE (X.suite a ((a, oe) :: pn)) W0 e m) : OEX X i e (fun _ _ => m) := fun a oe c d pn hz hf => by
  obtain ⟨t, q, h⟩ := h a oe pn
  exact ⟨t, q, fun x ρ S io F σ H Q st en sx hh => h ρ S io F σ H Q st en hh⟩
theorem oax_nil : OAX X i [] (fun _ _ => aNil) := fun a oe c d pn hz hf => ⟨_, pa_nil, fun x ρ S io F σ H Q st en sx h => RG.val (R := RepAs X.K) (d := []) (v := []) st rfl h⟩
theorem oax_cons (ha : OEX X i a ma) (hr : OAX X i es mas) (hs : starEach (a :: es) X.env = (false, eval a X.env) :: starEach es X.env := by rfl) : OAX X i (a :: es) (fun c x => aCons (ma c x) (mas c x)) := fun a oe c d pn hz hf => by
  obtain ⟨t, p, ha⟩ := ha a oe c d pn hz hf
  obtain ⟨u, q, hr⟩ := hr a oe c d pn hz hf
  refine ⟨_, pa_cons p q hs, fun x ρ S io F σ H Q st en sx h => ?_⟩
  refine ha x ρ S io F σ H _ st en sx (RG.bind h fun d S1 io1 F1 H1 v e1 n1 s1 r1 h1 => ?_)
  refine hr x ρ S1 io1 F1 σ H1 _ s1 (en.nxt n1) (sx.nxt n1) (RG.bind h1 fun d2 S2 io2 F2 H2 v2 e2 n2 s2 r2 h2 => ?_)
  exact RG.val (R := RepAs X.K) (d := d :: d2) s2 ⟨v, v2, rfl, r1.mono n2.han n2.fr, r2⟩ h2
theorem oex_if (hc : OTX X i cc mt) (ha : OEX X i a ma) (hb : OEX X i b mb) : OEX X i (.IfExp cc a b pos) (fun c x => eIfM (mt c x) (ma c x) (mb c x)) := fun a oe c d pn hz hf => by
  obtain ⟨t, p, hc⟩ := hc a oe c d pn hz hf
  obtain ⟨u, q, ha⟩ := ha a oe c d pn hz hf
  obtain ⟨u2, q2, hb⟩ := hb a oe c d pn hz hf
  refine ⟨_, pe_ifExp p q q2, fun x ρ S io F σ H Q st en sx h => ?_⟩
  refine hc x ρ S io F σ H _ st en sx (RG.bind h fun d S1 io1 F1 H1 v e1 n1 s1 r1 h1 => ?_)
  cases r1
  cases d with
  | true => exact iteT (ha x ρ S1 io1 F1 σ H1 Q s1 (en.nxt n1) (sx.nxt n1) h1)
  | false => exact iteF (hb x ρ S1 io1 F1 σ H1 Q s1 (en.nxt n1) (sx.nxt n1) h1)
theorem otx_val (he : OEX X i e m) (hs : ∀ whole, isTrue e X.env whole = (do let v ← whole; standAt e.pos; holding [v] (truthy v)) := by intro _; rfl) : OTX X i e (fun c x => tVal (m c x)) := fun a oe c d pn hz hf => by
  obtain ⟨t, p, he⟩ := he a oe c d pn hz hf
  refine ⟨tB t, pt_val p hs, fun x ρ S io F σ H Q st en sx h => ?_⟩
  exact he x ρ S io F σ H _ st en sx (RG.bind h fun d S1 io1 F1 H1 v e1 n1 s1 r1 h1 => tst_go s1 r1 h1)
theorem otx_w {m : Str → XD → MT} (h : OWX X i e m) : OTX X i e m := fun a oe c d pn hz hf => by
  obtain ⟨t, p, h⟩ := h a oe c d pn hz hf
  exact ⟨t, p.pt, h⟩
theorem owx_and1 (ha : OTX X i a mt) : OWX X i (.BoolOp .And [a] pos) mt := fun a oe c d pn hz hf => by
  obtain ⟨t, p, ha⟩ := ha a oe c d pn hz hf
  exact ⟨t, pw_and1 p, ha⟩
theorem owx_and {rest : List Expr} (ha : OTX X i a mt) (hb : OWX X i (.BoolOp .And (b :: rest) pos) mu) : OWX X i (.BoolOp .And (a :: b :: rest) pos) (fun c x => tAndM (mt c x) (mu c x)) := fun a oe c d pn hz hf => by
  obtain ⟨t, p, ha⟩ := ha a oe c d pn hz hf
  obtain ⟨u, q, hb⟩ := hb a oe c d pn hz hf
  refine ⟨_, pw_and p q, fun x ρ S io F σ H Q st en sx h => ?_⟩
  refine ha x ρ S io F σ H _ st en sx (RG.bind h fun d S1 io1 F1 H1 v e1 n1 s1 r1 h1 => ?_)
  cases r1
  cases d with
  | true => exact iteT (hb x ρ S1 io1 F1 σ H1 Q s1 (en.nxt n1) (sx.nxt n1) h1)
  | false => exact iteF (RG.val (R := RepB) (d := false) (v := false) s1 rfl h1)
theorem lookup_zip {K : PySem.W.Frag} {F : Hp} {f : Str} : ∀ {ns : List Str} {xs : List P} {gs : List (Str × V)} {z : P}, gs.map (·.1) = ns → RepL K F xs (gs.map (·.2)) → (ns.zip xs).lookup f = some z → ∃ v, gs.lookup f = some v ∧ Rep K F z v
  | [], xs, gs, z, hn, r, e => by cases e
  | n :: ns, [], gs, z, hn, r, e => by cases e
  | n :: ns, x :: xs, [], z, hn, r, e => by cases hn
  | n :: ns, x :: xs, (g, v) :: gs, z, hn, r, e => by
    have hg : g = n := (List.cons.inj hn).1
    have hn2 : gs.map (·.1) = ns := (List.cons.inj hn).2
    obtain ⟨v', r', e', rx, rr⟩ := r
    obtain ⟨ev, er⟩ := List.cons.inj e'
    have ev : v = v' := ev
    have er : gs.map (·.2) = r' := er
    subst ev er hg
    rw [List.zip_cons_cons, List.lookup_cons] at e
    rw [List.lookup_cons]
    cases q : f == g with
    | true =>
      rw [q] at e
      cases e
      exact ⟨v, rfl, rx⟩
    | false =>
      rw [q] at e
      exact lookup_zip hn2 rr e
def eXf (h f : Str) : Str → XD → ME := fun c x _ S => if c = h then (match x with
  | some (ns, xs) => (match (ns.zip xs).lookup f with
    | some z => .ok (.p z) S
    | none => .bad)
  | none => .bad) else .bad
theorem oex_fld {h f n : Str} (T : XfC X.K (He.ga X.K h)) (hno : PySem.W.findIn X.K (.ref (He.ga X.K h)) f = some none) (hN : X.N[i]? = some n) (hv : Vis X.env.scope n) (hb : attributeBase (.Name n p) f X.env (eval (.Name n p) X.env) = eval (.Name n p) X.env := by rfl)
    (hd : (n == ("__debug__" : Str)) = false := by decide) (hcd : (n == ("__classdict__" : Str)) = false := by decide) : OEX X i (.Attribute (.Name n p) f pos) (eXf h f) := fun a oe c d pn hz hf => by
  refine ⟨_, pe_xf T hno hz hf (pe_var (X := X.suite a ((a, oe) :: pn)) hN hv hd hcd) hb, fun x ρ S io F σ H Q st en sx hh => ?_⟩
  refine ⟨.ref a, sx.sl, rfl, ?_⟩
  unfold eXf at hh
  by_cases q : c = h
  · rw [if_pos q] at hh
    subst q
    cases x with
    | none => exact hh.elim
    | some q =>
      obtain ⟨ns, xs⟩ := q
      obtain ⟨dd, gs, ed, ha, hn, r⟩ := sx.xr
      dsimp only at hh
      cases e : (ns.zip xs).lookup f with
      | none => rw [e] at hh; exact hh.elim
      | some z =>
        rw [e] at hh
        obtain ⟨v, hl, rv⟩ := lookup_zip hn r e
        exact ⟨rfl, dd, gs, v, ed, st.sub _ _ ha, hl, hh io F H v Nxt.refl st rv⟩
  · rw [if_neg q] at hh
    exact hh.elim
def eXi (h : Str) (b : Bool) : Str → XD → ME := fun c x _ S => if c = h then (match x with
  | some _ => .ok (.p (.bl b)) S
  | none => .bad) else .bad
theorem oex_isi {h n B : Str} {bb : Bool} {pB pn_ : Pos} (T : ExcC X.K (He.ga X.K h)) (hk : PySem.W.kitOne X.K (.ref (He.ga X.K h)) (.ref (He.ga X.K B)) = some bb) (hN : X.N[i]? = some n) (hv : Vis X.env.scope n) (hm : X.mg "isinstance" = none) (gB : X.mg B = some (.ref (He.ga X.K B)))
    (hB : Gl X B := by rfl) (hg : Gl X "isinstance" := by rfl) (hd : (n == ("__debug__" : Str)) = false := by decide) (hcd : (n == ("__classdict__" : Str)) = false := by decide) (hdb : (B == ("__debug__" : Str)) = false := by decide)
    (hs : starEach [.Name n pn_, .Name B pB] X.env = (false, eval (.Name n pn_) X.env) :: starEach [.Name B pB] X.env := by rfl) (hs2 : starEach [.Name B pB] X.env = (false, eval (.Name B pB) X.env) :: starEach [] X.env := by rfl) (hplain : (backTo pos (starEach [.Name B pB] X.env)).any (·.1) = false := by rfl) :
    OEX X i (.Call (.Name "isinstance" p) [.Name n pn_, .Name B pB] [] pos) (eXi h bb) := fun a oe c d pn hz hf => by
  by_cases q : c = h
  · subst q
    refine ⟨_, pe_callB (X := X.suite a ((a, oe) :: pn)) (call_isX T hz hf) hg hm (by first | rfl | decide +kernel) (pa_cons (pe_var (X := X.suite a ((a, oe) :: pn)) hN hv hd hcd) (pa_cons (pe_glob (X := X.suite a ((a, oe) :: pn)) hB gB (v := .ref (He.ga X.K B)) rfl hdb) pa_nil hs2) hs) (by decide) (by decide) hs hplain, fun x ρ S io F σ H Q st en sx hh => ?_⟩
    unfold eXi at hh
    rw [if_pos rfl] at hh
    cases x with
    | none => exact hh.elim
    | some q =>
      obtain ⟨ns, xs⟩ := q
      obtain ⟨dd, gs, ed, ha, hn, r⟩ := sx.xr
      refine ⟨.ref a, sx.sl, ?_⟩
      exact ⟨.ref (He.ga X.K B), .ref (He.ga X.K B), bb, rfl, fun u r => r, hk, ⟨dd, gs, ed, st.sub _ _ ha⟩, hh io F H (.bl bb) Nxt.refl st rfl⟩
  · refine ⟨fun _ _ _ => False, ⟨fun _ _ _ _ _ _ z => z.elim⟩, fun x ρ S io F σ H Q st en sx hh => ?_⟩
    unfold eXi at hh
    rw [if_neg q] at hh
    exact hh.elim
theorem ox_ret {e : Expr} (he : OEX X i e m) : OX X (some i) [.Return (some e) pos] (fun c x => sRet (m c x)) := fun a oe c d pn hz hf => by
  obtain ⟨t, p, he⟩ := he a oe c d pn hz hf
  refine ⟨_, pss_one (ps_ret p), fun x ρ S io F σ H D s en sl xr h => ?_⟩
  exact he x ρ S io F σ H _ s en ⟨sl i rfl, xr⟩ (RS.go en h fun d S1 io1 F1 H1 v e1 n1 s1 r1 h1 => h1 io1 F1 H1 v Nxt.refl s1 r1)
end
end Mir

namespace Mir
open PySem PySem.Spec PyProof.Rows LamX
section
variable {X : L2.Cx} {pins : List (Addr × Obj)} {σ : L2.St} {H : L2.Hp} {s : Shared}
inductive TabStep (H : L2.Hp) (P : Addr) (ps : Array Value) (q : Str) (c' : Addr) : L2.Hp → Prop
  | hit (h : H c' = some (CodeO c' q)) (pos : Pos) (e : codeAmong pos ps.toList = some (.ref c')) : TabStep H P ps q c' H
  | new (more : Array Value) (h : H c' = none) (t : TriplesOk (ps ++ more).toList) (a : ∀ (p : Pos) (cv : Value), codeAmong p (ps ++ more).toList = some cv → codeAmong p ps.toList = some cv ∨ cv = .ref c') : TabStep H P ps q c' (L2.upd (L2.upd H P (.tbl (ps ++ more))) c' (CodeO c' q))
end
open L2 in
theorem Sta.tab {K : PySem.W.Frag} {io : Io} {F H H1 : L2.Hp} {S : Sto} {k : Nat} {x : Str} {c' : Addr} {q : Str} {ps : Array Value} (st : Sta K io F S H) (hk : S[k]? = some (.tbl x q)) (hP0 : H (lamT K x) = some (.tbl ps)) (h0 : TabStep H (lamT K x) ps q c' H1) :
    ∃ F1, Nxt io F H io F1 H1 ∧ Sta K io F1 S H1 ∧ F1 c' = some (CodeO c' q) := by
  obtain ⟨P, eP⟩ : ∃ P, P = lamT K x := ⟨_, rfl⟩
  have hP : H P = some (.tbl ps) := by rw [eP]; exact hP0
  have h : TabStep H P ps q c' H1 := by rw [eP]; exact h0
  obtain ⟨h1, h2, ps', h3, h4, h5⟩ := st.cel k _ hk
  rw [← eP] at h1 h2 h3
  rw [hP] at h3
  cases h3
  cases h with
  | hit hc pos e =>
    obtain ⟨c, e1, e2⟩ := h5 pos _ e
    cases e1
    exact ⟨F, Nxt.refl, st, e2⟩
  | new more hc ht ha =>
    obtain ⟨s1, n1⟩ := st.froze (o := CodeO c' q) hc
    have hne : P ≠ c' := fun z => by rw [z, hc] at hP; cases hP
    have hF1 : upd F c' (CodeO c' q) P = none := by rw [upd_ne hne]; exact h2
    have key : CellAt K io (upd F c' (CodeO c' q)) (upd (upd H c' (CodeO c' q)) P (.tbl (ps ++ more))) k (.tbl x q) := by
      show io[k]? = some (some (lamT K x)) ∧ _ ∧ _
      rw [← eP]
      refine ⟨h1, hF1, ps ++ more, upd_same, ht, fun p cv e => ?_⟩
      rcases ha p cv e with z | z
      · obtain ⟨c, e1, e2⟩ := h5 p cv z
        exact ⟨c, e1, n1.fr _ _ e2⟩
      · exact ⟨c', z, upd_same⟩
    have hH : upd (upd H c' (CodeO c' q)) P (.tbl (ps ++ more)) = upd (upd H P (.tbl (ps ++ more))) c' (CodeO c' q) := by
      funext b
      by_cases q1 : b = P
      · subst q1
        rw [upd_same, upd_ne hne, upd_same]
      · rw [upd_ne q1]
        by_cases q2 : b = c'
        · subst q2
          rw [upd_same, upd_same]
        · rw [upd_ne q2, upd_ne q2, upd_ne q1]
    obtain ⟨s2, n2⟩ := s1.write h1 hF1 key
    rw [hH] at s2 n2
    rw [show S.set k (.tbl x q) = S from List.ext_getElem? fun j => by
      by_cases hj : j = k
      · subst hj
        rw [List.getElem?_set_self (List.getElem?_eq_some_iff.mp hk).1, hk]
      · rw [List.getElem?_set_ne (Ne.symm hj)]] at s2
    exact ⟨_, n1.trans n2, s2, upd_same⟩
end Mir

namespace Mir
open PySem PySem.Spec PyProof.Rows LamX
section
variable {X : L2.Cx} {pins : List (Addr × Obj)} {σ : L2.St} {H : L2.Hp} {s : Shared}
end
end Mir
namespace Mir
open PySem L2
end Mir

namespace Mir
open PySem L2
theorem end_rs {K : PySem.W.Frag} {io : Io} {F H : Hp} {S : Sto} {r : RF} {Q : VK} {E : XK} (st : Sta K io F S H) (h : RG K (RepA K) (endF S.length r) io F H Q E) : RS K r io F H { nx := fun _ H' => Q .non H', rt := Q } (fun c d _ H' => E c d H') := by
  cases r with
  | bad => exact h.elim
  | ok fl S1 =>
    cases fl with
    | nx ρ => exact fun io1 F1 H1 σ1 nx s1 en1 => h (io1.take S.length) F1 H1 .non (nx.cut st.len) (s1.cut _) rfl
    | rt d => exact fun io1 F1 H1 v nx s1 r1 => ret_ok st.len nx s1 r1 h
    | bk ρ => exact h.elim
    | ct ρ => exact h.elim
    | xc ρ c x => exact fun io1 F1 H1 d σ1 nx s1 en1 xr => h (io1.take S.length) F1 H1 d (nx.cut st.len) (s1.cut _) xr
end Mir

namespace Mir
open PySem L2
end Mir

namespace Mir
open PySem L2
end Mir

namespace Mir
open PySem L2
structure ExK (K : PySem.W.Frag) (c : Str) : Prop where
  oex : OexG K (He.ga K c)
  xf : XfC K (He.ga K c)
  ex : ExcC K (He.ga K c)
def oexB (K : PySem.W.Frag) (C : Addr) : Bool := ((PySem.W.excInitIn K C bmV "ValueError.__new__" && PySem.W.excOver K C bmV) || ((PySem.W.excInitIn K C bmL "LookupError.__new__" && PySem.W.excOver K C bmL) || (PySem.W.excInitIn K C bmA "ArithmeticError.__new__" && PySem.W.excOver K C bmA))) &&
  ((match PySem.W.clsIn K C with
    | some cd => cd.hasDict
    | none => false) && (He.eqO (PySem.W.findIn K (.ref C) "__setattr__") (some (some (.builtin "object.__setattr__"))) && (decide (PySem.W.subIn K (.ref C) (.type "BaseException") = some true) && (decide (PySem.W.typeIn K (.ref C) = some (.type "type")) && PySem.W.keepIn K (.ref C)))))
theorem oexB_ok {K : PySem.W.Frag} {C : Addr} (h : oexB K C = true) : OexG K C := by
  unfold oexB at h
  obtain ⟨h1, h⟩ := He.ba h
  obtain ⟨h2, h⟩ := He.ba h
  obtain ⟨h3, h⟩ := He.ba h
  obtain ⟨h4, h⟩ := He.ba h
  obtain ⟨h5, h6⟩ := He.ba h
  refine ⟨?_, ?_, He.eqO_ok h3, of_decide_eq_true h4, of_decide_eq_true h5, h6⟩
  · rcases Bool.or_eq_true_iff.mp h1 with q | q
    · obtain ⟨a, b⟩ := He.ba q; exact ⟨_, _, exb_V, a, b⟩
    · rcases Bool.or_eq_true_iff.mp q with q | q
      · obtain ⟨a, b⟩ := He.ba q; exact ⟨_, _, exb_L, a, b⟩
      · obtain ⟨a, b⟩ := He.ba q; exact ⟨_, _, exb_A, a, b⟩
  · cases e : PySem.W.clsIn K C with
    | none => rw [e] at h2; cases h2
    | some cd => rw [e] at h2; exact ⟨cd, rfl, h2⟩
def excB (K : PySem.W.Frag) (D : Addr) : Bool := xfB K D && (He.eqO (PySem.W.findIn K (.ref D) "__class__") (some (some (.builtin "object.__class__"))) && (He.eqO (PySem.W.specialIn K (.builtin "object.__class__") "__get__") (some (some (.builtin "getset_descriptor.__get__"))) &&
  (decide (PySem.W.takesIn K (.builtin "object.__class__") = some true) && decide (PySem.W.mroIn K D (.type "object") = some true))))
theorem excB_ok {K : PySem.W.Frag} {D : Addr} (h : excB K D = true) : ExcC K D := by
  unfold excB at h
  obtain ⟨h1, h⟩ := He.ba h
  obtain ⟨h2, h⟩ := He.ba h
  obtain ⟨h3, h⟩ := He.ba h
  obtain ⟨h4, h5⟩ := He.ba h
  have X := xfB_ok h1
  exact ⟨X.ga, X.gg, X.exC, X.hdC, He.eqO_ok h2, He.eqO_ok h3, of_decide_eq_true h4, of_decide_eq_true h5⟩
def exkB (K : PySem.W.Frag) (c : Str) : Bool := oexB K (He.ga K c) && (xfB K (He.ga K c) && excB K (He.ga K c))
theorem exkB_ok {K : PySem.W.Frag} {c : Str} (h : exkB K c = true) : ExK K c := by
  obtain ⟨h1, h⟩ := He.ba h
  obtain ⟨h2, h3⟩ := He.ba h
  exact ⟨oexB_ok h1, xfB_ok h2, excB_ok h3⟩
structure ExI (K : PySem.W.Frag) (c : Str) : Prop where
  ini : PySem.W.findIn K (.ref (He.ga K c)) "__init__" = some (some (.ref (He.ma K (He.ga K c) "__init__")))
  ty : PySem.W.typeIn K (.ref (He.ma K (He.ga K c) "__init__")) = some (.type "function")
def exiB (K : PySem.W.Frag) (c : Str) : Bool := He.eqO (PySem.W.findIn K (.ref (He.ga K c)) "__init__") (some (some (.ref (He.ma K (He.ga K c) "__init__")))) && decide (PySem.W.typeIn K (.ref (He.ma K (He.ga K c) "__init__")) = some (.type "function"))
theorem exiB_ok {K : PySem.W.Frag} {c : Str} (h : exiB K c = true) : ExI K c := by
  obtain ⟨h1, h2⟩ := He.ba h
  exact ⟨He.eqO_ok h1, of_decide_eq_true h2⟩
abbrev ExN (K : PySem.W.Frag) (c f : Str) : Prop := PySem.W.findIn K (.ref (He.ga K c)) f = some none
def exnB (K : PySem.W.Frag) (c f : Str) : Bool := He.eqO (PySem.W.findIn K (.ref (He.ga K c)) f) (some none)
theorem exnB_ok {K : PySem.W.Frag} {c f : Str} (h : exnB K c f = true) : ExN K c f := He.eqO_ok h
abbrev KitB (K : PySem.W.Frag) (c b : Str) (t : Bool) : Prop := PySem.W.kitOne K (.ref (He.ga K c)) (.ref (He.ga K b)) = some t
def kitcB (K : PySem.W.Frag) (c b : Str) (t : Bool) : Bool := decide (PySem.W.kitOne K (.ref (He.ga K c)) (.ref (He.ga K b)) = some t)
theorem kitcB_ok {K : PySem.W.Frag} {c b : Str} {t : Bool} (h : kitcB K c b t = true) : KitB K c b t := of_decide_eq_true h
def sbB (K : PySem.W.Frag) (T : Sb) : Bool := T.all fun q => decide (PySem.W.exmOne K (.ref (He.ga K q.1)) (.ref (He.ga K q.2.1)) = some q.2.2)
theorem sbB_ok {K : PySem.W.Frag} {T : Sb} (h : sbB K T = true) : SbOk K T := fun q hq => of_decide_eq_true (List.all_eq_true.mp h q hq)
end Mir

namespace Mir
open PySem PySem.Spec L2
section
variable {P : Program} {w : World} {K : PySem.W.Frag} {mg : Str → Option Value} {base : Heap} {x qual : Str} {params : Arguments} {body : List Stmt} {scope : Scope} {dvs : List V} {kws : List (Str × V)} {f : Addr} {fd : FuncData} {N ps : List Str} {k nl : Nat} {m : MS}
theorem body_ok {X : Cx} {n : Nat} {vs : List V} {H : Hp} {Q : VK} {E : XK} (hn : X.N.length = n + nl) (hN : X.N = N) (hb : OSs X (fun c d _ H' => E c d H') body m) (h : spM X.K (mkF n nl m) vs H Q E) :
    ∃ t, PSs X body t ∧ t { nx := fun _ H' => Q .non H', rt := Q } (L2.start N vs) H := by
  obtain ⟨t, pt, ht⟩ := hb
  refine ⟨t, pt, ?_⟩
  have hl := spM_len h
  obtain ⟨io, FF, S, ds, st, r, h⟩ := h
  have hd : ds.length = n := by rw [← r.length]; exact hl
  unfold mkF at h
  rw [if_pos hd] at h
  have e0 := Env.start (K := X.K) (io := io) (F := FF) nl r
  have hst : L2.start N vs = vs.map some ++ List.replicate nl none := by
    unfold L2.start
    rw [← hN, hn, hl]
    congr 2
    omega
  rw [hst]
  exact ht _ S io FF _ H _ st e0 (end_rs st h)
structure FnA (P : Program) (w : World) (K : PySem.W.Frag) (mg : Str → Option Value) (base : Heap) (k : Nat) (f : Addr) (fd : FuncData) (ps : List Str) (sp : Sp) : Prop where
  len : ∀ vs H Q E, sp vs H Q E → vs.length = ps.length
  run : ∀ (A : Around) (outer : List PySem.Env) (s : Shared) (H : Hp) (args : Args) (us : List Value) (vs : List V) (Q : VK) (E : XK), L2H.RoomH k A → Env0 P w K mg base A outer s H → BindsTo s fd args (ps.zip us) → Vals vs us → sp vs H Q E →
    codeAny (model P w) A (.call (.ref f) args) (CR (L2.CX P w) outer P w H s Q E) s
theorem fn_okW (F : FunD K x qual params body scope dvs kws f fd) (sc : FnScope N ps scope) (hN : N.length = ps.length + nl)
    (hb : ∀ (cdv : Value) (A : Around) (outer : List PySem.Env) (s : Shared) (H : Hp) (E : XK), OSs { cxOf (L2.CX P w) P w K mg base N qual scope f cdv A outer s H E with calm := false } (fun c d _ H' => E c d H') body m) :
    FnA P w K mg base 1 f fd ps (spM K (mkF ps.length nl m)) := by
  obtain ⟨oc, od, dV, kV, doc, pm, an, cdv, ct, osl, rfl, lk, hcd, _, _⟩ := F.ex
  refine ⟨fun vs H Q E h => spM_len h, fun A outer s H args us vs Q E hr e0 hbd r hsp => ?_⟩
  have KX : K.In s.heap := e0.mod.kin.keeps fun b o e => (e0.bs b o e).1
  have lim : s.heap.NoLimit := e0.mod.nolimit.keeps fun b o e => (e0.bs b o e).1
  refine codeAny_call_function hr.depth (KX _ _ lk) rfl sc.co sc.gen rfl (PySem.W.codeRec_of KX hcd) (hbd _ _ _ _ ?_)
  refine wpAny_newFunctionEnv_cells sc.kind (fun y hy => ?_) fun env he s1 x => ?_
  · rcases sc.par y.1 (List.of_mem_zip hy).1 with q | q
    · exact .inl q
    · exact .inr ⟨q, PySem.W.cellsFrom_some _ _ _ (.inl q)⟩
  · subst he
    obtain ⟨t, ht, hq⟩ := body_ok (X := { cxOf (L2.CX P w) P w K mg base N qual scope f cdv A outer s H E with calm := false }) hN rfl (hb cdv A outer s H E) hsp
    have e1 : Env0 P w K mg base { A with handled := none } outer s H := ⟨e0.frames, e0.mod, e0.bs, e0.bsz, e0.funs, e0.frf, e0.hok, e0.bare⟩
    have I := inv_start (CX := L2.CX P w) (A := { A with handled := none }) (E := E) sc rfl e1 (spM_len hsp) r x
    have J : L2.Inv { cxOf (L2.CX P w) P w K mg base N qual scope f cdv A outer s H E with calm := false } [] (L2.start N vs) H s1 :=
      ⟨⟨I.ok.mod, I.ok.kind, I.ok.glob, I.ok.blt, I.ok.above, I.ok.inj, I.ok.has, I.ok.cab, (fun z => Bool.noConfusion (show false = true from z)), I.ok.frames, I.ok.stk, I.ok.exf, I.ok.bs, I.ok.bsz, I.ok.noex, I.ok.exfs, I.ok.funs, I.ok.frf⟩, I.os, I.bare, I.base, I.loc, I.cell, I.free, I.freeC, I.pin, I.hok, I.len⟩
    refine ⟨lim.keeps x.toInCall.keep, codeAny_func ?_⟩
    refine wpAny_mono (ht.run [] s1 (L2.start N vs) H _ J hq) (fun fl s' hs => ?_) fun e s' hs => hs
    cases fl with
    | ret u =>
      obtain ⟨v, σ', H', J, rv, q⟩ := hs
      exact ⟨v, H', J.os, J.bare, J.base, J.hok, rv, q⟩
    | next =>
      obtain ⟨σ', H', J, q⟩ := hs
      exact ⟨.non, H', J.os, J.bare, J.base, J.hok, rfl, q⟩
    | brk =>
      obtain ⟨_, _, _, q⟩ := hs
      exact q.elim
    | cont =>
      obtain ⟨_, _, _, q⟩ := hs
      exact q.elim
end
structure GW (P : Program) (w : World) (K : PySem.W.Frag) (mg : Str → Option Value) (base : Heap) (c : Str) (m : MF) : Prop where
  cls : Cls K (He.ga K c)
  me : Meth K (He.ga K c) "__repr__" (He.ma K (He.ga K c) "__repr__")
  fn : ∃ fd ps, FnA P w K mg base 1 (He.ma K (He.ga K c) "__repr__") fd ps (spM K m) ∧ L2.Binds K fd ps []
structure Sub (X : Cx) (A : Around) : Prop where
  fr : A.frames = X.A.frames
  dp : A.depth + 3 * 1 + 5 < recursionLimit
  un : A.units + 16 * 1 + 200 < cLine
abbrev E0' : XK := fun _ _ _ => False
theorem own_call {X : Cx} {A : Around} {c : Str} {m : MF} {pins : List (Addr × Obj)} {σ : St} {H : Hp} {s : Shared} {b : Addr} {Q : VK} {E : Value → Shared → Prop} (G : GW X.prog X.w X.K X.mg X.base c m) (U : Sub X A) (I : Inv X pins σ H s) (h : spM X.K m [.ref b] H Q E0') :
    wpAny (model X.prog X.w) A (call (.ref (He.ma X.K (He.ga X.K c) "__repr__")) [.ref b]) (fun u s' => ∃ v H', Inv X pins σ H' s' ∧ RelV v u ∧ Q v H') E s := by
  obtain ⟨fd, ps, F, hb⟩ := G.fn
  have hl : ([.ref b] : List Value).length = ps.length := (F.len _ _ _ _ h)
  have bd := hb s [.ref b] I.kIn (by rw [List.append_nil]; exact hl)
  rw [List.append_nil] at bd
  have e0 : Env0 X.prog X.w X.K X.mg X.base A X.stack s H := ⟨by rw [U.fr]; exact I.env0.frames, I.env0.mod, I.env0.bs, I.env0.bsz, I.env0.funs, I.env0.frf, I.env0.hok, I.env0.bare⟩
  have key := F.run A X.stack s H ⟨[.ref b], []⟩ [.ref b] [.ref b] Q E0' ⟨U.dp, U.un⟩ e0 bd (.cons rfl .nil) h
  refine wpAny_call (codeAny_mono key fun r s' hq => ?_)
  match r, hq with
  | .error e, ⟨_, _, _, _, _, _, _, _, _, _, _, _, z⟩ => exact z.elim
  | .ok (.ret u), hq => exact I.after hq
  | .ok .next, hq => exact hq.elim
  | .ok .brk, hq => exact hq.elim
  | .ok .cont, hq => exact hq.elim
section
variable {X : Cx} {A : Around} {c : Str} {m : MF} {pins : List (Addr × Obj)} {σ : St} {H : Hp} {s : Shared} {b dx : Addr} {fs : List (Str × V)} {Q : Str → Shared → Prop} {Q' : Str → Hp → Prop} {E : Value → Shared → Prop} {n : Nat}
theorem own_under (G : GW X.prog X.w X.K X.mg X.base c m) (U : Sub X A) (hz : n ≤ sizeLine) (I : Inv X pins σ H s) (e : H b = some (.ins (He.ga X.K c) dx fs)) (h : spM X.K m [.ref b] H (fun v H' => ∃ y, v = .str y ∧ Q' y H') E0')
    (k : ∀ y H' s', Inv X pins σ H' s' → Q' y H' → Q y s') : wpAny (model X.prog X.w) A (pyReprUnder n (.ref b)) Q E s := by
  refine wpAny_pyReprUnder_ref hz ?_
  obtain ⟨mA, O, _⟩ := ins_get I.hok e
  obtain ⟨od, J, _⟩ := O.look
  unfold pyReprObjUnder pyReprObjBy
  refine wpAny_bind (wpAny_cRoomFor (by have := U.un; omega) ?_)
  refine wpAny_bind (wpAny_bind (J.type.here ((PySem.W.looks_findIn I.kIn G.me.at_).here ?_)))
  show wpAny _ _ (if (some (Value.ref (He.ma X.K (He.ga X.K c) "__repr__"))).isNone = true then _ else _) _ _ _
  rw [if_neg (by simp)]
  refine wpAny_bind ?_
  simp only [callSpecialIfBoundBy?, bindSpecialIfBound?]
  refine wpAny_holding (wpAny_bind (wpAny_bind (wpAny_bind (J.type.here ((PySem.W.looks_findIn I.kIn G.me.at_).here ?_)))))
  refine wpAny_bind (wpAny_askSetting (wpAny_ite ?_))
  have fin : wpAny (model X.prog X.w) A (call (.ref (He.ma X.K (He.ga X.K c) "__repr__")) [.ref b] >>= fun v => pure (some v)) (fun r s' => wpAny (model X.prog X.w) A (match r with
      | some r => do if ← isInstance r (.type "str") then pure r else raiseError "TypeError" s!"__repr__ returned non-string (type {← typeNameOf r})"
      | none => unsupported "repr:special-get-raises") (fun v s' => ∃ x u, v = .str x u ∧ Q x s') E s') E s := by
    refine wpAny_bind (wpAny_mono (own_call (E := E) G U I h) (fun u s' hq => ?_) fun _ _ e => e)
    obtain ⟨v, H', I3, rv, y, rfl, q3⟩ := hq
    obtain ⟨t, rfl⟩ := (show ∃ t, u = Value.str y t from rv)
    refine wpAny_pure ?_
    exact wpAny_bind (wpAny_isInstance (T := "str") (b := true) rfl isSubtype_str_str (wpAny_pure ⟨_, _, rfl, k y H' s' I3 q3⟩))
  split
  · exact wpAny_bind ((PySem.W.bind_fn I.kIn _ (beq_iff_eq.mp G.me.fn)).here (wpAny_pure (by exact fin)))
  · exact wpAny_tryCatch (wpAny_bind ((PySem.W.bind_fn I.kIn _ (beq_iff_eq.mp G.me.fn)).here (wpAny_pure (by exact fin))))
end
structure Top1 (X : Cx) (A : Around) : Prop where
  fr : A.frames = X.A.frames
  dp : A.depth + 3 * 1 + 8 < recursionLimit
  un : A.units + 16 * 1 + 210 < cLine
theorem under_loop {A : Around} {args : Args} : (A.under (.builtin "list.__repr__.loop" args)).depth = A.depth + 1 ∧ (A.under (.builtin "list.__repr__.loop" args)).frames = A.frames ∧ (A.under (.builtin "list.__repr__.loop" args)).handled = A.handled := by
  refine ⟨?_, ?_, rfl⟩
  · first | rfl | simp [Around.under, Code.weight, Code.isCreation, Code.isGuard, Code.isCaller, Code.frames, Code.isFrame, guardIds]
  · first | rfl | simp [Around.under, Code.envs, Code.isFrame, pushEnvs]
theorem under_tup {A : Around} {args : Args} : (A.under (.builtin "tuple.__repr__" args)).depth = A.depth + 1 ∧ (A.under (.builtin "tuple.__repr__" args)).frames = A.frames ∧ (A.under (.builtin "tuple.__repr__" args)).handled = A.handled := by
  refine ⟨?_, ?_, rfl⟩
  · first | rfl | simp [Around.under, Code.weight, Code.isCreation, Code.isGuard, Code.isCaller, Code.frames, Code.isFrame, guardIds]
  · first | rfl | simp [Around.under, Code.envs, Code.isFrame, pushEnvs]
section
variable {X : Cx} {A : Around} {pins : List (Addr × Obj)} {σ : St} {H : Hp} {s : Shared} {a : Addr} {v : V} {Q : Value → Shared → Prop} {Q' : Str → Hp → Prop} {E : Value → Shared → Prop}
theorem list1 (U : Top1 X A) (hg : A.guards = some []) (I : Inv X pins σ H s) (ha : SqL X.K H a [v])
    (el : ∀ (A' : Around) (pins' : List (Addr × Obj)) (s' : Shared) (u : Value) (Q2 : Str → Shared → Prop) (E2 : Value → Shared → Prop), Sub X A' → Inv X pins' σ H s' → RelV v u → (∀ y H'' s'', Inv X pins' σ H'' s'' → Q' y H'' → Q2 y s'') → wpAny (model X.prog X.w) A' (pyReprUnder 1 u) Q2 E2 s')
    (hQ : ∀ y H', Q' y H' → SqL X.K H' a [v] ∧ y.length ≤ 100000)
    (k : ∀ y H' s' t, Inv X pins σ H' s' → Q' y H' → Q (.str (listText [y]) t) s') : wpAny (model X.prog X.w) A (call (.builtin "list.__repr__") [.ref a]) Q E s := by
  obtain ⟨its, r, ⟨o, n, e, hc, hs, hd⟩, hz⟩ := I.list ha
  obtain ⟨u, rfl, ru⟩ := r.one
  refine wpAny_call (codeAny_call_builtin F.slot_list_repr.plain F.entry_list_repr (F.slot_list_repr.check _ _ _ _ _ _ _ _ ⟨o, e, hc⟩ (F.args_list_repr_1 _) ?_))
  refine wpAny_list_repr_head (A := A.in1) (b := 0) hg (fun _ _ _ z => nomatch z) e hd ?_
  refine wpAny_bind (m := newList []) (wpAny_newObj_type ?_)
  refine wpAny_pure ⟨F.quiet_list_repr_loop _, ?_⟩
  obtain ⟨Pa, ePa⟩ : ∃ Pa, Pa = s.heap.objs.size := ⟨_, rfl⟩
  rw [← ePa]
  have I1 : Inv X pins σ H { s with heap := s.heap.push { cls := .type "list", data := .seq #[] } } := I.kept fun b o e => Heap.get?_push_of_some _ e
  have fp : FpOk X pins H Pa := I.fpOk (by rw [ePa]; exact Nat.le_refl _) (by rw [ePa]; exact I.hok.fresh (Nat.le_refl _))
  have gP : (s.heap.push { cls := .type "list", data := .seq #[] }).get? Pa = some { cls := .type "list", data := .seq #[] } := by rw [ePa]; exact Heap.get?_push_size _ rfl
  have ne : Pa ≠ a := fun z => by
    rw [z] at ePa
    exact absurd (Heap.lt_size e) (by rw [ePa]; exact Nat.lt_irrefl _)
  have e1 : (s.heap.push { cls := .type "list", data := .seq #[] }).get? a = some o := Heap.get?_push_of_some _ e
  have I2 := I1.pinned (fp := [Pa]) (fun b hb => by rw [List.mem_singleton.mp hb]; exact fp) (fun b hb => by rw [List.mem_singleton.mp hb]; exact ⟨_, gP, fun v z => by cases z⟩)
  refine codeAny_builtin F.entry_list_repr_loop ?_
  show wpAny _ _ (Builtin.«list.__repr__.loop» ⟨[.ref a, .int 0 0, .ref Pa, .int 0 0], []⟩) _ _ _
  rw [repr_loop_tree]
  refine wpAny_bind (wpAny_listItems e1 hd ?_)
  show wpAny _ _ (do
      let s ← holding [u] (pyReprUnder 1 u)
      let signs := (0 : Int).toNat + (s.length + 2)
      let r ← mkStr s
      Builtin.List.listUpdate (.ref Pa) (·.push r)
      again (.builtin "list.__repr__.loop" ⟨[.ref a, rawInt (0 + 1), .ref Pa, rawInt signs], []⟩)) _ _ _
  obtain ⟨ud, uf, uh⟩ := under_loop (A := A) (args := ⟨[.ref a, rawInt 0, .ref Pa, rawInt ((0 : Nat) : Int)], []⟩)
  have uu := units_under_list_loop A ⟨[.ref a, rawInt 0, .ref Pa, rawInt ((0 : Nat) : Int)], []⟩
  refine wpAny_bind (wpAny_holding (el _ _ _ u _ _ ⟨by rw [uf]; exact U.fr, by rw [ud]; have := U.dp; omega, by rw [uu]; have := U.un; omega⟩ I2 ru fun y H2 s2 J q => ?_))
  obtain ⟨hS, hy⟩ := hQ y H2 q
  refine wpAny_bind (wpAny_mkStr ?_ (Nat.le_trans hy (by decide)))
  have gP2 := (J.pin (Pa, _) (List.mem_append_right _ (List.mem_append_right _ (mem_pinsAt (List.mem_singleton.mpr rfl) gP))))
  have J1 := J.unpinned
  refine wpAny_bind ?_
  show wpAny _ _ (updateSeq Pa _) _ _ _
  refine wpAny_updateSeq gP2.1 rfl (wpAny_pure ⟨F.quiet_list_repr_loop _, ?_⟩) (by show 0 ≤ sizeLine; omega)
  have J2 : Inv X pins σ H2 { s2 with heap := s2.heap.update Pa (Obj.mapSeq (·.push (Value.str y s2.toks))), toks := s2.toks + 1 } := J1.turned (it := Pa) (fun b o hb e => (Heap.get?_update_other _ _ (Ne.symm hb)).trans e) gP2.2.1 fp.2.1 fp.2.2.2.1 fp.2.2.2.2.1 fp.2.2.2.2.2
  obtain ⟨its2, r2, ⟨o2, n2, e2, hc2, hs2, hd2⟩, hz2⟩ := J2.list hS
  obtain ⟨u2, rfl, ru2⟩ := r2.one
  refine codeAny_builtin F.entry_list_repr_loop ?_
  show wpAny _ _ (Builtin.«list.__repr__.loop» ⟨[.ref a, .int 1 0, .ref Pa, .int _ 0], []⟩) _ _ _
  rw [repr_loop_tree]
  refine wpAny_bind (wpAny_listItems e2 hd2 ?_)
  show wpAny _ _ (reprEnd (.ref Pa)) _ _ _
  unfold reprEnd
  obtain ⟨c3, gP3⟩ : ∃ c3, (s2.heap.update Pa (Obj.mapSeq (·.push (Value.str y s2.toks)))).get? Pa = some { cls := .type "list", data := .seq #[Value.str y s2.toks] c3 } := ⟨_, Heap.get?_update_self _ gP2.1 rfl⟩
  refine wpAny_bind (wpAny_listItems gP3 rfl ?_)
  have rf := repr_fold [(y, s2.toks)] 0 "["
  show wpAny _ _ (do
    let text ← (forIn ((strValues [(y, s2.toks)]).zipIdx 0) ("[" : Str) reprBody : Sem Str)
    retStr (text ++ "]")) _ _ _
  rw [rf]
  refine wpAny_bind (wpAny_pure ?_)
  have hl : (listText [y]).length = y.length + 2 := by
    show ((("[" : String) : Str) ++ (("" : String) : Str) ++ y ++ (("]" : String) : Str)).length = _
    rw [strLen_append, strLen_append, strLen_append]
    show 1 + 0 + y.length + 1 = _
    omega
  refine wpAny_bind (wpAny_mkStr (wpAny_pure ?_) (by show (listText [y]).length ≤ sizeLine; rw [hl, sizeLine_eq]; omega))
  exact k y H2 _ _ (J2.tok _) q
theorem tup1 (U : Top1 X A) (hg : A.guards = some []) (I : Inv X pins σ H s) (ha : SqT X.K H a [v])
    (el : ∀ (A' : Around) (pins' : List (Addr × Obj)) (s' : Shared) (u : Value) (Q2 : Str → Shared → Prop) (E2 : Value → Shared → Prop), Sub X A' → Inv X pins' σ H s' → RelV v u → (∀ y H'' s'', Inv X pins' σ H'' s'' → Q' y H'' → Q2 y s'') → wpAny (model X.prog X.w) A' (pyReprUnder 1 u) Q2 E2 s')
    (hQ : ∀ y H', Q' y H' → y.length ≤ 100000)
    (k : ∀ y H' s' t, Inv X pins σ H' s' → Q' y H' → Q (.str (tupleText [y]) t) s') : wpAny (model X.prog X.w) A (call (.builtin "tuple.__repr__") [.ref a]) Q E s := by
  obtain ⟨its, r, ⟨o, e, hc, n, hd⟩, hz⟩ := I.tuple ha
  obtain ⟨u, rfl, ru⟩ := r.one
  refine wpAny_call (codeAny_call_builtin_own (Code.quiet_builtin _ (by decide +kernel)) F.entry_tuple_repr (F.slot_tuple_repr.check _ _ _ _ _ _ _ _ ⟨o, e, hc⟩ (F.args_tuple_repr_1 _) ?_))
  show wpOwn _ _ _ (Builtin.tupleReprAt 0 ⟨[.ref a], []⟩) _ _ _
  rw [tuple_repr_tree, tupleReprUnderWay_eq]
  refine wpOwn_bind (wpOwn_stackTailAny hg (tupGuardF_off _) (tupGuardF_pos _) ?_)
  show wpOwn _ _ _ (if false = true then _ else _) _ _ _
  rw [if_neg Bool.false_ne_true]
  refine wpOwn_of_wpAny ?_
  show wpAny _ _ (tupleReprRest 0 (.ref a)) _ _ s
  unfold tupleReprRest Builtin.Tuple.tupleItemsOf
  refine wpAny_bind (wpAny_bind (wpAny_seqItems e hd (wpAny_pure ?_)))
  rw [← Array.forIn_toList]
  obtain ⟨ud, uf, uh⟩ := under_tup (A := A) (args := ⟨[.ref a], []⟩)
  have uu := units_under_tuple_repr A ⟨[.ref a], []⟩
  refine wpAny_bind ?_
  show wpAny _ _ (forIn [u] (⟨#[], 0⟩ : (Array Str × Nat)) tupBody) _ _ _
  rw [List.forIn_cons]
  refine wpAny_bind (wpAny_bind (el _ _ _ u _ _ ⟨by rw [uf]; exact U.fr, by rw [ud]; have := U.dp; omega, by rw [uu]; have := U.un; omega⟩ I ru fun y H2 s2 J q => wpAny_pure ?_))
  simp only [List.forIn_nil]
  refine wpAny_pure ?_
  have hy := hQ y H2 q
  have ht : (tupleText [y]).length = y.length + 3 := by
    show ((("(" : String) : Str) ++ Str.join ", " [y] ++ ((",)" : String) : Str)).length = _
    rw [strLen_append, strLen_append]
    show 1 + y.length + 2 = _
    omega
  refine wpAny_bind (wpAny_mkStr (wpAny_pure ?_) (by show (tupleText [y]).length ≤ sizeLine; rw [ht, sizeLine_eq]; omega))
  exact k y H2 _ _ (J.tok _) q
end
def showO (tb : List (Str × MF)) (c : Str) (x : P) : Option Str := match tb.lookup c with
  | some m => (match m [.p x] [] with
    | .ok (.p (.str y)) [] => some (strOf y)
    | _ => none)
  | none => none
def showE (tb : List (Str × MF)) : P → Option Str
  | .non => some "None"
  | .bl b => some (if b then "True" else "False" : String)
  | .int i => if i.natAbs.log2 < 1920 then some (toString i) else none
  | .str x => some (reprText (strOf x))
  | .obj c ns xs => showO tb c (.obj c ns xs)
  | _ => none
def plainP (x : P) : Bool := x.dat 60 && x.toD.showable
def show1 (tb : List (Str × MF)) (f : Str → Str) : List P → Option Str
  | [.obj c ns ys] => (showO tb c (.obj c ns ys)).map f
  | _ => none
def showP (tb : List (Str × MF)) (x : P) : Option Str := match x with
  | .lst xs => if plainP (.lst xs) then some (P.lst xs).toD.shown else show1 tb (fun y => listText [y]) xs
  | .tup xs => if plainP (.tup xs) then some (P.tup xs).toD.shown else show1 tb (fun y => tupleText [y]) xs
  | .dct [] [] => some "{}"
  | .dct _ _ => none
  | .dcl _ _ => none
  | x => showE tb x
def reprV (tb : List (Str × MF)) (d : Vl) (S : Sto) : Res Vl := match rd S d with
  | some x => (match showP tb x with
    | some t => if t.length ≤ 100000 then .ok (.p (.str (txL t))) S else .bad
    | none => .bad)
  | none => .bad
def eRepr (tb : List (Str × MF)) (a : ME) : ME := fun ρ S => (a ρ S).bind fun d S1 => reprV tb d S1
theorem Sta.grow {K : PySem.W.Frag} {io : Io} {F H F' H' : Hp} {S : Sto} (st : Sta K io F S H) (n : Nxt [] F H [] F' H') (st' : Sta K [] F' [] H') : Sta K io F' S H' ∧ Nxt io F H io F' H' ∧ ∀ (a : Addr) (o : HO), H a = some o → H' a = some o := by
  have keep : ∀ (a : Addr) (o : HO), H a = some o → H' a = some o := fun a o e => n.out a o e fun k z => by simp at z
  refine ⟨⟨st.len, st.inj, st'.sub, fun k a e z => ?_, fun k c e => ?_⟩, ⟨fun _ _ h => h, n.fr, fun a o e _ => keep a o e, fun _ _ h => .inl h, n.stay, fun a h => ?_⟩, keep⟩
  · cases q : H a with
    | none => exact st.trk k a e q
    | some o => rw [keep a o q] at z; cases z
  · refine (st.cel k c e).mono (fun _ _ h => h) n.fr (fun a ha hn => ?_) fun a o ha ho => keep a o ho
    cases q : F' a with
    | none => rfl
    | some o =>
      rcases n.nf a (by rw [q]; simp) with z | z | ⟨j, z⟩
      · exact absurd hn z
      · exact absurd z (st.trk k a ha)
      · simp at z
  · rcases n.nf a h with z | z | ⟨j, z⟩
    · exact .inl z
    · exact .inr (.inl z)
    · simp at z
section
variable {X : Cx} {tb : List (Str × MF)}
theorem own_sp {c : Str} {ns : List Str} {xs : List P} {io : Io} {F H : Hp} {S : Sto} {v : V} {t : Str} (GT : ∀ c m, tb.lookup c = some m → GW X.prog X.w X.K X.mg X.base c m) (st : Sta X.K io F S H) (r : Rep X.K F (.obj c ns xs) v) (e : showO tb c (.obj c ns xs) = some t) :
    ∃ m b dx fs, GW X.prog X.w X.K X.mg X.base c m ∧ v = .ref b ∧ H b = some (.ins (He.ga X.K c) dx fs) ∧ spM X.K m [v] H (fun v' H' => ∃ y, v' = .str y ∧ (y = t ∧ (∀ (a : Addr) (o : HO), H a = some o → H' a = some o) ∧ ∃ io' F', Nxt io F H io' F' H' ∧ Sta X.K io' F' S H')) E0' := by
  unfold showO at e
  cases q : tb.lookup c with
  | none => rw [q] at e; cases e
  | some m =>
    rw [q] at e
    dsimp only at e
    have r0 := r
    obtain ⟨b, dx, gs, rfl, hb, hn, hr⟩ := r
    refine ⟨m, b, dx, gs, GT c m q, rfl, st.sub _ _ hb, [], F, [], [.p (.obj c ns xs)], st.cut 0, ⟨_, [], rfl, r0, rfl⟩, ?_⟩
    cases h : m [.p (.obj c ns xs)] [] with
    | bad => rw [h] at e; cases e
    | exc c' x' S' => rw [h] at e; cases e
    | ok d S' =>
      rw [h] at e
      cases d with
      | c j => cases e
      | p z =>
        cases z with
        | str y =>
          cases S' with
          | cons _ _ => cases e
          | nil =>
            have e : some (strOf y) = some t := e
            cases e
            intro io' F' H' v' n s' rv
            have hio : io' = [] := List.eq_nil_of_length_eq_zero s'.len
            subst hio
            obtain ⟨s2, n2, k2⟩ := st.grow n s'
            exact ⟨strOf y, rv, rfl, k2, io, F', n2, s2⟩
        | _ => cases e
end
structure RoomR (A : Around) : Prop where
  dp : A.depth + 3 * 1 + 8 < recursionLimit
  un : A.units + 16 * 1 + 211 < cLine
  gd : A.guards = some []
theorem RoomG.rr {k : Nat} {A : Around} (h : RoomG k A) (hk : 2 ≤ k) : RoomR A := ⟨by have := h.r.dp; omega, by have := h.r.un; omega, h.gd⟩
theorem txL_strOf (t : Str) : strOf (txL t) = t := strOf_toList t
def rShow (K : PySem.W.Frag) (tb : List (Str × MF)) : List V → Hp → VK → Prop := fun vs H Q => ∃ (x : P) (v : V) (S : Sto) (io : Io) (F : Hp) (t : Str), vs = [v] ∧ Sta K io F S H ∧ RepR K F H x v ∧ showP tb x = some t ∧ t.length ≤ 100000 ∧
  ∀ io' F' H', Nxt io F H io' F' H' → Sta K io' F' S H' → Q (.str t) H'
section
variable {X : Cx} {tb : List (Str × MF)}
theorem showE_core (GT : ∀ c m, tb.lookup c = some m → GW X.prog X.w X.K X.mg X.base c m) (U : RoomR X.A) {pins : List (Addr × Obj)} {s : Shared} {σ : St} {H : Hp} {Q : VK} {x : P} {v : V} {u : Value} {S : Sto} {io : Io} {F : Hp} {t : Str} (I : Inv X pins σ H s) (ru : RelV v u)
    (st : Sta X.K io F S H) (r : Rep X.K F x v) (e : showE tb x = some t) (hz : t.length ≤ 100000) (k : ∀ io' F' H', Nxt io F H io' F' H' → Sta X.K io' F' S H' → Q (.str t) H') :
    wpAny (model X.prog X.w) X.A (call (.builtin "repr") [u]) (EP X pins σ Q) X.xe s := by
  have fin : ∀ t', t' = t → EP X pins σ Q (.str t' s.toks) { s with toks := s.toks + 1 } := fun t' e => by
    subst e
    exact ⟨.str t', H, I.tok _, ⟨_, rfl⟩, k io F H Nxt.refl st⟩
  have hz2 : t.length ≤ sizeLine := Nat.le_trans hz (by decide)
  cases x with
  | non =>
    obtain rfl : v = .non := r
    obtain rfl : u = Value.none := ru
    cases e
    exact call_repr_gives (typeIs_none s) PySem.F.slot_NoneType_repr PySem.F.entry_NoneType_repr (PySem.F.args_NoneType_repr_1 _) gives_none_repr (fin _ rfl) rfl hz2
  | bl b =>
    obtain rfl : v = .bl b := r
    obtain rfl : u = Value.bool b := ru
    cases e
    exact call_repr_gives (typeIs_bool s b) PySem.F.slot_bool_repr PySem.F.entry_bool_repr (PySem.F.args_bool_repr_1 _) (gives_bool_repr b) (fin _ (by cases b <;> rfl)) rfl (by cases b <;> decide)
  | int i =>
    obtain rfl : v = .int i := r
    obtain ⟨tk, rfl⟩ := (show ∃ tk, u = Value.int i tk from ru)
    have e : (if i.natAbs.log2 < 1920 then some (Str.ofString (toString i)) else none) = some t := e
    by_cases hi : i.natAbs.log2 < 1920
    · rw [if_pos hi] at e
      cases e
      exact call_repr_gives (typeIs_int s i tk) PySem.F.slot_int_repr PySem.F.entry_int_repr (PySem.F.args_int_repr_1 _) (gives_int_repr i tk hi) (fin _ rfl) rfl hz2
    · rw [if_neg hi] at e; cases e
  | str y =>
    obtain rfl : v = .str (strOf y) := r
    obtain ⟨tk, rfl⟩ := (show ∃ tk, u = Value.str (strOf y) tk from ru)
    cases e
    exact call_repr_gives (typeIs_str s (strOf y) tk) PySem.F.slot_str_repr PySem.F.entry_str_repr (PySem.F.args_str_repr_1 _) (gives_str_repr (strOf y) tk) (fin _ rfl) rfl hz2
  | obj c ns xs =>
    obtain ⟨m, b, dx, fs, G, rfl, hb, sp⟩ := own_sp GT st r e
    obtain rfl : u = Value.ref b := ru
    obtain ⟨mA, O, _⟩ := ins_get I.hok hb
    obtain ⟨od, J, _⟩ := O.look
    obtain ⟨mm, fr⟩ := I.fr
    have U1 : Sub X X.A.in1 := ⟨rfl, by have := U.dp; show X.A.depth + _ < _; omega, by have := U.un; show X.A.units + 1 + _ < _; omega⟩
    refine PySem.W.repr_K (by have := U.un; show X.A.units + 1 < _; omega) fr I.ok.mod.kin J G.me.at_ G.me.fn (wpAny_mono (own_call (E := X.xe) G U1 I sp) (fun u s' hq => ?_) fun _ _ e => e)
    obtain ⟨v', H', I3, rv, y, rfl, rfl, _, io', F', n, s3⟩ := hq
    obtain ⟨tk, rfl⟩ := (show ∃ tk, u = Value.str y tk from rv)
    exact ⟨.str y, H', I3, ⟨tk, rfl⟩, k io' F' H' n s3⟩
  | _ => cases e
theorem show1_some {f : Str → Str} {xs : List P} {t : Str} (e : show1 tb f xs = some t) : ∃ c ns ys y, xs = [.obj c ns ys] ∧ showO tb c (.obj c ns ys) = some y ∧ t = f y := by
  unfold show1 at e
  split at e
  · rename_i c ns ys
    cases q : showO tb c (.obj c ns ys) with
    | none => rw [q] at e; cases e
    | some y => rw [q] at e; cases e; exact ⟨c, ns, ys, y, rfl, q, rfl⟩
  · cases e
theorem call_show (GT : ∀ c m, tb.lookup c = some m → GW X.prog X.w X.K X.mg X.base c m) (U : RoomR X.A) : CallR X (.builtin "repr") (rShow X.K tb) := by
  intro pins s σ H xs us Q I r h
  obtain ⟨x, v, S, io, F, t, rfl, st, rr, e, hz, k⟩ := h
  obtain ⟨u, rfl, ru⟩ := r.one
  have U1 : Top1 X X.A.in1 := ⟨rfl, by have := U.dp; show X.A.depth + _ < _; omega, by have := U.un; show X.A.units + 1 + _ < _; omega⟩
  have hz2 : t.length ≤ sizeLine := Nat.le_trans hz (by decide)
  have plain : ∀ {d : PyData} {a : Addr}, v = .ref a → Dp X.K H (.ref a) d → d.showable = true → d.hasDict = false → d.depth ≤ 64 → d.shown = t → wpAny (model X.prog X.w) X.A (call (.builtin "repr") [u]) (EP X pins σ Q) X.xe s := by
    rintro d a rfl dp hs hd hdep rfl
    obtain ⟨as, rd⟩ := Dp.reads I d (.ref a) u dp ru
    obtain rfl : u = Value.ref a := ru
    refine repr_of_reads' rd hs (PyData.noDict_hsm hd) U.gd ?_ (fun _ _ e => e) (fun h' tk' tk hk => ⟨.str d.shown, H, I.kept hk, ⟨_, rfl⟩, k io F H Nxt.refl st⟩) hz2
    have := U.un
    omega
  have el : ∀ {c : Str} {ns : List Str} {ys : List P} {w : V} {y : Str}, Rep X.K F (.obj c ns ys) w → showO tb c (.obj c ns ys) = some y → ∀ (A' : Around) (pins' : List (Addr × Obj)) (s' : Shared) (u : Value) (Q2 : Str → Shared → Prop) (E2 : Value → Shared → Prop), Sub X A' → Inv X pins' σ H s' → RelV w u →
      (∀ z H'' s'', Inv X pins' σ H'' s'' → (z = y ∧ (∀ (a : Addr) (o : HO), H a = some o → H'' a = some o) ∧ ∃ io' F', Nxt io F H io' F' H'' ∧ Sta X.K io' F' S H'') → Q2 z s'') → wpAny (model X.prog X.w) A' (pyReprUnder 1 u) Q2 E2 s' := by
    intro c ns ys w y rw_ ey A' pins' s' u Q2 E2 UA I' ru' k'
    obtain ⟨m, b, dx, fs, G, rfl, hb, sp⟩ := own_sp GT st rw_ ey
    obtain rfl : u = Value.ref b := ru'
    exact own_under G UA (by decide) I' hb sp k'
  cases x with
  | lst xs =>
    obtain ⟨a, vs, rfl, hH, hr⟩ := rr
    have e : (if plainP (.lst xs) then some (P.lst xs).toD.shown else show1 tb (fun y => listText [y]) xs) = some t := e
    by_cases q : plainP (.lst xs) = true
    · rw [if_pos q] at e
      cases e
      unfold plainP at q
      rw [Bool.and_eq_true] at q
      exact plain rfl (Rep.dp (x := .lst xs) q.1 ⟨a, vs, rfl, hH, RepL.mono st.sub hr⟩) q.2 P.noDict (Nat.le_trans (P.dep q.1) (by decide)) rfl
    · rw [if_neg q] at e
      obtain ⟨c, ns, ys, y, rfl, ey, rfl⟩ := show1_some e
      obtain ⟨w, rest, rfl, rw_, hn⟩ := hr
      have hn : rest = [] := hn
      subst hn
      obtain rfl : u = Value.ref a := ru
      obtain ⟨its, r2, ⟨o, n, e2, hc, hs, hd⟩, _⟩ := I.list (SqL.of hH)
      have hy : y.length ≤ 100000 := by
        have hl : (listText [y]).length = y.length + 2 := by
          show ((("[" : String) : Str) ++ (("" : String) : Str) ++ y ++ (("]" : String) : Str)).length = _
          rw [strLen_append, strLen_append, strLen_append]
          show 1 + 0 + y.length + 1 = _
          omega
        omega
      refine call_repr_slot (by have := U.un; omega) ⟨o, e2, hc⟩ PySem.F.slot_list_repr.toG (list1 U1 U.gd I (SqL.of hH) (el rw_ ey) (fun z H' q => ⟨?_, ?_⟩) fun z H' s' tk J q => ?_)
      · exact SqL.of (q.2.1 _ _ hH)
      · rw [q.1]; exact hy
      · obtain ⟨rfl, _, io', F', n, s3⟩ := q
        exact ⟨_, _, rfl, .str (listText [z]), H', J, ⟨_, rfl⟩, k io' F' H' n s3⟩
  | tup xs =>
    obtain ⟨a, vs, rfl, hH, hr⟩ := rr
    have e : (if plainP (.tup xs) then some (P.tup xs).toD.shown else show1 tb (fun y => tupleText [y]) xs) = some t := e
    by_cases q : plainP (.tup xs) = true
    · rw [if_pos q] at e
      cases e
      unfold plainP at q
      rw [Bool.and_eq_true] at q
      exact plain rfl (Rep.dp (x := .tup xs) q.1 ⟨a, vs, rfl, sqt_mono st.sub hH, RepL.mono st.sub hr⟩) q.2 P.noDict (Nat.le_trans (P.dep q.1) (by decide)) rfl
    · rw [if_neg q] at e
      obtain ⟨c, ns, ys, y, rfl, ey, rfl⟩ := show1_some e
      obtain ⟨w, rest, rfl, rw_, hn⟩ := hr
      have hn : rest = [] := hn
      subst hn
      obtain rfl : u = Value.ref a := ru
      obtain ⟨its, r2, ⟨o, e2, hc, n, hd⟩, _⟩ := I.tuple (sqt_mono st.sub hH)
      have hy : y.length ≤ 100000 := by
        have ht : (tupleText [y]).length = y.length + 3 := by
          show ((("(" : String) : Str) ++ Str.join ", " [y] ++ ((",)" : String) : Str)).length = _
          rw [strLen_append, strLen_append]
          show 1 + y.length + 2 = _
          omega
        omega
      refine call_repr_slot (by have := U.un; omega) ⟨o, e2, hc⟩ PySem.F.slot_tuple_repr (tup1 U1 U.gd I (sqt_mono st.sub hH) (el rw_ ey) (fun z H' q => by rw [q.1]; exact hy) fun z H' s' tk J q => ?_)
      obtain ⟨rfl, _, io', F', n, s3⟩ := q
      exact ⟨_, _, rfl, .str (tupleText [z]), H', J, ⟨_, rfl⟩, k io' F' H' n s3⟩
  | dct ks vs =>
    obtain ⟨a, kvs, rfl, hH, h1, h2⟩ := rr
    cases ks with
    | cons _ _ => cases e
    | nil =>
      cases vs with
      | cons _ _ => cases e
      | nil =>
      cases e
      have hk : kvs = [] := by
        have := RepL.length h1
        simpa using this
      subst hk
      obtain ⟨_, hsys, xs, hx, o, es, ep, ho, ⟨hoc, hoe⟩, hd, _, hp, _⟩ := dk_of I.hok hH
      have hxs : xs = [] := by cases hx; rfl
      subst hxs
      have hes : es.toList = [] := by
        generalize es.toList = l at hp
        cases hp
        rfl
      obtain rfl : u = Value.ref a := ru
      refine call_repr_slot (by have := U.un; omega) ⟨o, ho, hoc⟩ PySem.F.slot_dict_repr (call_dict_reprK (as := []) (h₀ := s.heap) (d := 0) (ps := []) ho hoc hd hsys (by simp) (by rw [hes]; exact .nil) U.gd (fun b _ => Clear.nil b) (by have := U.un; show X.A.units + 1 + _ < _; omega) (fun _ _ e => e) (fun h' tk' tk hk => ?_) (by decide))
      exact ⟨_, _, rfl, .str "{}", H, I.kept hk, ⟨_, rfl⟩, k io F H Nxt.refl st⟩
  | non => exact showE_core GT U I ru st rr e hz k
  | bl b => exact showE_core GT U I ru st rr e hz k
  | int b => exact showE_core GT U I ru st rr e hz k
  | str b => exact showE_core GT U I ru st rr e hz k
  | obj c ns ys => exact showE_core GT U I ru st rr e hz k
  | ty _ => cases e
  | glo _ => cases e
  | raw _ => cases e
  | rwp _ _ => cases e
  | scr _ => cases e
  | dcl _ _ => cases e
end
section
variable {X : Cx} {W : WX} {tb : List (Str × MF)} {a : Expr} {ma : ME} {pos p : Pos} {k i : Nat} {mx : Str → XD → ME}
theorem reprV_go {K : PySem.W.Frag} {io : Io} {F H : Hp} {S : Sto} {d : Vl} {v : V} {Q : VK} {E : XK} (st : Sta K io F S H) (r : RepV K io F d v) (h : RG K (RepA K) (reprV tb d S) io F H Q E) : rShow K tb [v] H Q := by
  unfold reprV at h
  cases e : rd S d with
  | none => rw [e] at h; exact h.elim
  | some x =>
    rw [e] at h
    dsimp only at h
    cases e2 : showP tb x with
    | none => rw [e2] at h; exact h.elim
    | some t =>
      rw [e2] at h
      dsimp only at h
      by_cases hz : t.length ≤ 100000
      · rw [if_pos hz] at h
        refine ⟨x, v, S, io, F, t, rfl, st, st.rd r e, e2, hz, fun io' F' H' n s' => h io' F' H' (.str t) n s' ?_⟩
        show V.str t = V.str (strOf (txL t))
        rw [txL_strOf]
      · rw [if_neg hz] at h; exact h.elim
theorem oe_reprA (hr : RoomG k X.A) (hk : 2 ≤ k) (GT : ∀ c m, tb.lookup c = some m → GW X.prog X.w X.K X.mg X.base c m) (hm : X.mg "repr" = none) (ha : OE X W a ma) (hg : Gl X "repr" := by rfl) (hs : starEach [a] X.env = (false, eval a X.env) :: starEach [] X.env := by rfl) :
    OE X W (.Call (.Name "repr" p) [a] [] pos) (eRepr tb ma) := by
  obtain ⟨t, q, ha⟩ := oa_cons ha oa_nil hs
  refine ⟨_, pe_callB (call_show GT (hr.rr hk)) hg hm (by first | rfl | decide +kernel) q (by decide) (by decide) hs rfl, fun ρ S io F σ H Q st en h => ?_⟩
  have h : RG X.K (RepA X.K) ((aCons ma aNil ρ S).bind fun ds S1 => match ds with
    | [d] => reprV tb d S1
    | _ => .bad) io F H Q (fun c d H' => W c d σ H') := by
    unfold eRepr at h
    unfold aCons aNil
    cases q : ma ρ S with
    | ok d S1 => rw [q] at h; exact h
    | exc c x S1 => rw [q] at h; exact h
    | bad => rw [q] at h; exact h
  refine ha ρ S io F σ H _ st en (RG.bind h fun ds S1 io1 F1 H1 vs e1 n1 s1 r1 h1 => ?_)
  match ds, r1, h1 with
  | [d], r1, h1 =>
    obtain ⟨v, rr, e, r2, r3⟩ := r1
    have r3 : rr = [] := r3
    subst r3 e
    exact reprV_go s1 r2 h1
  | [], _, h1 => exact h1.elim
  | _ :: _ :: _, _, h1 => exact h1.elim
theorem oex_reprA (hr : RoomG k X.A) (hk : 2 ≤ k) (GT : ∀ c m, tb.lookup c = some m → GW X.prog X.w X.K X.mg X.base c m) (hm : X.mg "repr" = none) (ha : OEX X i a mx) (hg : Gl X "repr" := by rfl) (hs : starEach [a] X.env = (false, eval a X.env) :: starEach [] X.env := by rfl) :
    OEX X i (.Call (.Name "repr" p) [a] [] pos) (fun c x => eRepr tb (mx c x)) := fun a0 oe c d pn hz hf => by
  have R := hr.rr hk
  have R2 : RoomR (X.suite a0 ((a0, oe) :: pn)).A := ⟨R.dp, R.un, R.gd⟩
  obtain ⟨t, q, ha⟩ := oax_cons ha oax_nil hs a0 oe c d pn hz hf
  refine ⟨_, pe_callB (X := X.suite a0 ((a0, oe) :: pn)) (call_show GT R2) hg hm (by first | rfl | decide +kernel) q (by decide) (by decide) hs rfl, fun x ρ S io F σ H Q st en sx h => ?_⟩
  have h : RG X.K (RepA X.K) ((aCons (mx c x) aNil ρ S).bind fun ds S1 => match ds with
    | [d] => reprV tb d S1
    | _ => .bad) io F H Q E0 := by
    unfold eRepr at h
    dsimp only at h
    unfold aCons aNil
    cases q : mx c x ρ S with
    | ok d S1 => rw [q] at h; exact h
    | exc c x S1 => rw [q] at h; exact h
    | bad => rw [q] at h; exact h
  refine ha x ρ S io F σ H _ st en sx (RG.bind h fun ds S1 io1 F1 H1 vs e1 n1 s1 r1 h1 => ?_)
  match ds, r1, h1 with
  | [d], r1, h1 =>
    obtain ⟨v, rr, e, r2, r3⟩ := r1
    have r3 : rr = [] := r3
    subst r3 e
    exact reprV_go s1 r2 h1
  | [], _, h1 => exact h1.elim
  | _ :: _ :: _, _, h1 => exact h1.elim
end
end Mir

namespace Mir
open PySem L2
section
variable {K : PySem.W.Frag}
end
section
variable {X : Cx} {W : WX} {a o : Expr} {ma mo : ME} {pos p apos : Pos}
end
end Mir

namespace Mir
open PySem L2
def pMulS : P → P → Option P
  | .str x, .int j => if 2 ≤ j ∧ j ≤ 300 ∧ 0 < x.length ∧ x.length ≤ 300 then some (.str (List.replicate j.toNat x).flatten) else none
  | _, _ => none
def rMulS : R2 := fun x y H Q => ∃ (i : List Nat) (n : Int), x = .str (strOf i) ∧ y = .int n ∧ 2 ≤ n ∧ n ≤ 300 ∧ 0 < i.length ∧ i.length ≤ 300 ∧ Q (.str (strOf (List.replicate n.toNat i).flatten)) H
theorem fold_cps (x : List Nat) : ∀ (k : Nat) (acc : List Nat), (List.replicate k x.toArray).foldl (fun a b => a ++ b) acc.toArray = (acc ++ (List.replicate k x).flatten).toArray
  | 0, acc => by simp
  | k + 1, acc => by
    rw [List.replicate_succ, List.foldl_cons, List.append_toArray, fold_cps x k (acc ++ x), List.replicate_succ, List.flatten_cons, List.append_assoc]
theorem op_mulS {X : Cx} : OpR X (binaryOp .Mult) rMulS := by
  intro pins s σ H x y v u Q I rx ry h
  obtain ⟨i, n, rfl, rfl, h1, h2, h3, h4, q⟩ := h
  obtain ⟨t, rfl⟩ := rx
  obtain ⟨t', rfl⟩ := ry
  have hl := strOf_length i
  have hm : (strOf i).length * n.toNat ≤ 90000 := by
    rw [hl]
    exact Nat.le_trans (Nat.mul_le_mul h4 (show n.toNat ≤ 300 by omega)) (by decide)
  refine PySem.P.mul_str (by rw [decide_eq_false (by omega), decide_eq_false (by omega)]; rfl) (fun _ _ => ?_) (fun _ _ => ?_) ?_
  · have h5 : ((strOf i).length : Int) ≤ (2 ^ 63 - 1) / n := by
      refine Int.le_ediv_of_mul_le (by omega) ?_
      have h6 : (((strOf i).length * n.toNat : Nat) : Int) ≤ ((90000 : Nat) : Int) := Int.ofNat_le.mpr hm
      rw [Int.natCast_mul, Int.toNat_of_nonneg (by omega)] at h6
      omega
    omega
  · unfold Builtin.Str.tooLong
    exact decide_eq_false (Nat.not_lt.mpr (Nat.le_trans hm (by decide)))
  · have e0 : (n == 1 || (strOf i).length == 0) = false := by
      rw [Bool.or_eq_false_iff]
      exact ⟨beq_eq_false_iff_ne.mpr (by omega), beq_eq_false_iff_ne.mpr (by omega)⟩
    rw [if_neg (by omega), e0, if_neg Bool.false_ne_true]
    have ef : (⟨(List.replicate n.toNat (strOf i).cps).foldl (fun a b => a ++ b) #[]⟩ : Str) = strOf (List.replicate n.toNat i).flatten := by
      have := fold_cps i n.toNat []
      rw [List.nil_append] at this
      show (⟨_⟩ : Str) = ⟨_⟩
      congr 1
    have el : (strOf (List.replicate n.toNat i).flatten).length ≤ sizeLine := by
      rw [strOf_length, List.length_flatten, List.map_replicate, List.sum_replicate_nat, Nat.mul_comm, ← hl]
      exact Nat.le_trans hm (by decide)
    show Made.post (Made.str ⟨(List.replicate n.toNat (strOf i).cps).foldl (fun a b => a ++ b) #[]⟩) _ s
    rw [ef]
    exact ⟨el, ⟨.str (strOf (List.replicate n.toNat i).flatten), H, I.tok _, ⟨s.toks, rfl⟩, q⟩⟩
section
variable {X : Cx} {W : WX} {a b : Expr} {ma mb : ME} {pos : Pos}
theorem ok_mulS {K : PySem.W.Frag} : BinOk K rMulS pMulS := by
  intro io F S H x y v w z Q st rx ry e k
  cases x with
  | str i =>
    cases y with
    | int j =>
      have e : (if 2 ≤ j ∧ j ≤ 300 ∧ 0 < i.length ∧ i.length ≤ 300 then some (P.str (List.replicate j.toNat i).flatten) else none) = some z := e
      split at e
      · rename_i hz
        cases e
        have rx : _ = _ := rx
        have ry : _ = _ := ry
        subst rx; subst ry
        exact ⟨i, j, rfl, rfl, hz.1, hz.2.1, hz.2.2.1, hz.2.2.2, k F H _ Nxt.refl st rfl⟩
      · cases e
    | _ => cases e
  | _ => cases e
theorem oe_mulS (ha : OE X W a ma) (hb : OE X W b mb) : OE X W (.BinOp a .Mult b pos) (eBin pMulS ma mb) := oe_bin op_mulS ok_mulS ha hb
end
end Mir

namespace Mir
open PySem L2
section
variable {X : Cx} {W : WX} {a b : Expr} {ma mb : ME} {x x2 : Str} {pos : Pos} {params params2 : Arguments} {ps ps2 : List Str} {k k2 j : Nat} {m m2 : MF}
end
end Mir

namespace Mir
open PySem PySem.Spec PyProof.Rows LamX
open L2 (Cx Hp Inv V RelV)
structure LamS1 (sc scope : Scope) (p : Str) : Prop where
  kind : scope.kind = .function
  co : scope.isCoroutine = false
  gen : scope.isGenerator = false
  par : scope.names.lookup p = some .local
  own : ∀ y ∈ scope.names, (y.2 = .local → y.1 = p) ∧ y.2 ≠ .cell
  free : ∀ y ∈ scope.names, y.2 = .free → sc.names.lookup y.1 = some .cell ∨ sc.names.lookup y.1 = some .free
theorem LamS1.has {X : Cx} {scope : Scope} {p : Str} (L : LamS1 X.env.scope scope p) (ok : X.Ok) : ∀ y ∈ scope.names, y.2 = .free → ∃ c, X.env.cells.lookup y.1 = some c := fun y hy e => by
  rcases L.free y hy e with k | k
  · exact ok.has _ (.inl k)
  · exact ok.has _ (.inr k)
section
variable {X : Cx} {pins : List (Addr × Obj)} {σ : L2.St} {H HZ : Hp} {s s1 : Shared}
end
end Mir

namespace Mir
open PySem L2
end Mir

namespace Mir
open PySem L2
def putLot (k : NestedKey) (kp x : P) : List P → List (List P) → List P × List (List P)
  | kk :: ks, l :: ls => if nkOf kk = some k then (kk :: ks, (l ++ [x]) :: ls) else (kk :: (putLot k kp x ks ls).1, l :: (putLot k kp x ks ls).2)
  | _, _ => ([kp], [[x]])
def LotsR (K : PySem.W.Frag) (F H : Hp) (Ok : Addr → Prop) (m : Nat) : List P → List (List P) → List (NestedKey × Addr × V) → Prop
  | [], [], [] => True
  | kk :: ks, l :: ls, e :: es => nkOf kk = some e.1 ∧ Rep K F kk (.ref e.2.1) ∧ (∃ b vs, e.2.2 = .ref b ∧ H b = some (.lst vs) ∧ RepL K F l vs ∧ Ok b ∧ l.length ≤ m) ∧ LotsR K F H Ok m ks ls es
  | _, _, _ => False
section
variable {K : PySem.W.Frag} {F F' H H' : Hp} {Ok Ok' : Addr → Prop} {m m' : Nat}
theorem LotsR.mono (hF : Same F F') (hH : ∀ b o, Ok b → H b = some o → H' b = some o) (hO : ∀ b o, Ok b → H b = some o → Ok' b) (hm : m ≤ m') : ∀ {ks : List P} {ls : List (List P)} {es : List (NestedKey × Addr × V)}, LotsR K F H Ok m ks ls es → LotsR K F' H' Ok' m' ks ls es
  | [], [], [], _ => trivial
  | kk :: ks, l :: ls, e :: es, ⟨h1, h2, ⟨b, vs, e1, h3, h4, h5, h6⟩, h7⟩ => ⟨h1, Rep.mono hF h2, ⟨b, vs, e1, hH _ _ h5 h3, RepL.mono hF h4, hO _ _ h5 h3, Nat.le_trans h6 hm⟩, LotsR.mono hF hH hO hm h7⟩
  | [], [], _ :: _, h => h.elim
  | [], _ :: _, _, h => h.elim
  | _ :: _, [], _, h => h.elim
  | _ :: _, _ :: _, [], h => h.elim
theorem LotsR.keys : ∀ {ks : List P} {ls : List (List P)} {es : List (NestedKey × Addr × V)}, LotsR K F H Ok m ks ls es → nkL ks = some (es.map (·.1)) ∧ RepL K F ks (es.map fun e => .ref e.2.1) ∧ ks.length = es.length
  | [], [], [], _ => ⟨rfl, .nil, rfl⟩
  | kk :: ks, l :: ls, e :: es, ⟨h1, h2, _, h7⟩ => by
    obtain ⟨a, b, c⟩ := LotsR.keys h7
    refine ⟨?_, .cons h2 b, by rw [List.length_cons, List.length_cons, c]⟩
    show (match nkOf kk, nkL ks with
      | some k, some ks => some (k :: ks)
      | _, _ => none) = _
    rw [h1, a]
    rfl
  | [], [], _ :: _, h => h.elim
  | [], _ :: _, _, h => h.elim
  | _ :: _, [], _, h => h.elim
  | _ :: _, _ :: _, [], h => h.elim
theorem LotsR.beside {q : Addr} {o : HO} (hq : ∀ e : NestedKey × Addr × V, e.2.2 ≠ .ref q → True) : ∀ {ks : List P} {ls : List (List P)} {es : List (NestedKey × Addr × V)}, (∀ e ∈ es, e.2.2 ≠ .ref q) → LotsR K F H Ok m ks ls es → LotsR K F (upd H q o) Ok m ks ls es
  | [], [], [], _, _ => trivial
  | kk :: ks, l :: ls, e :: es, hn, ⟨h1, h2, ⟨b, vs, e1, h3, h4, h5, h6⟩, h7⟩ => ⟨h1, h2, ⟨b, vs, e1, by
      rw [upd_ne (fun z => hn e List.mem_cons_self (by rw [e1, z]))]
      exact h3, h4, h5, h6⟩, LotsR.beside hq (fun x hx => hn x (List.mem_cons_of_mem _ hx)) h7⟩
  | [], [], _ :: _, _, h => h.elim
  | [], _ :: _, _, _, h => h.elim
  | _ :: _, [], _, _, h => h.elim
  | _ :: _, _ :: _, [], _, h => h.elim
theorem LotsR.put {k : NestedKey} {kp x : P} {v : V} (hx : Rep K F x v) : ∀ {ks : List P} {ls : List (List P)} {es : List (NestedKey × Addr × V)}, LotsR K F H Ok m ks ls es → (es.map (·.2.2)).Nodup →
    (es.find? (fun e => decide (e.1 = k)) = none ∧ putLot k kp x ks ls = (ks ++ [kp], ls ++ [[x]])) ∨
    ∃ e b vs, es.find? (fun e => decide (e.1 = k)) = some e ∧ e.2.2 = .ref b ∧ H b = some (.lst vs) ∧ vs.length ≤ m ∧ Ok b ∧ LotsR K F (upd H b (.lst (vs ++ [v]))) Ok (m + 1) (putLot k kp x ks ls).1 (putLot k kp x ks ls).2 es
  | [], [], [], _, _ => .inl ⟨rfl, rfl⟩
  | kk :: ks, l :: ls, e :: es, ⟨h1, h2, ⟨b, vs, e1, h3, h4, h5, h6⟩, h7⟩, nd => by
    have nd' := List.nodup_cons.mp nd
    by_cases hk : e.1 = k
    · have hp : putLot k kp x (kk :: ks) (l :: ls) = (kk :: ks, (l ++ [x]) :: ls) := by
        show (if nkOf kk = some k then _ else _) = _
        rw [if_pos (by rw [h1, hk])]
      refine .inr ⟨e, b, vs, by rw [List.find?_cons, decide_eq_true hk], e1, h3, by rw [h4.length]; exact h6, h5, ?_⟩
      rw [hp]
      refine ⟨h1, h2, ⟨b, vs ++ [v], e1, upd_same, h4.append (.cons hx .nil), h5, by rw [List.length_append]; exact Nat.succ_le_succ h6⟩, ?_⟩
      refine LotsR.beside (fun _ _ => trivial) (fun z hz q => nd'.1 (List.mem_map.mpr ⟨z, hz, q.trans e1.symm⟩)) (LotsR.mono (Same.refl _) (fun _ _ _ z => z) (fun _ _ z _ => z) (Nat.le_succ _) h7)
    · have hp : putLot k kp x (kk :: ks) (l :: ls) = (kk :: (putLot k kp x ks ls).1, l :: (putLot k kp x ks ls).2) := by
        show (if nkOf kk = some k then _ else _) = _
        rw [if_neg (by rw [h1]; exact fun z => hk (Option.some.inj z))]
      rcases LotsR.put (k := k) (kp := kp) hx h7 nd'.2 with ⟨g1, g2⟩ | ⟨e', b', vs', g1, g2, g3, g4, g5, g6⟩
      · refine .inl ⟨by rw [List.find?_cons, decide_eq_false hk]; exact g1, ?_⟩
        rw [hp, g2]
        rfl
      · refine .inr ⟨e', b', vs', by rw [List.find?_cons, decide_eq_false hk]; exact g1, g2, g3, g4, g5, ?_⟩
        rw [hp]
        have hne : b ≠ b' := fun z => nd'.1 (List.mem_map.mpr ⟨e', List.mem_of_find?_eq_some g1, by show e'.2.2 = e.2.2; rw [g2, e1, z]⟩)
        exact ⟨h1, h2, ⟨b, vs, e1, by rw [upd_ne hne]; exact h3, h4, h5, Nat.le_succ_of_le h6⟩, g6⟩
  | [], [], _ :: _, h, _ => h.elim
  | [], _ :: _, _, h, _ => h.elim
  | _ :: _, [], _, h, _ => h.elim
  | _ :: _, _ :: _, [], h, _ => h.elim
end
section
variable {K : PySem.W.Frag} {io io1 : Io} {F F1 H H1 : Hp} {S : Sto}
theorem Nxt.put {b : Addr} {o : HO} (n : Nxt io F H io1 F1 H1) (hb : H b = none) : Nxt io F H io1 F1 (upd H1 b o) := by
  refine ⟨n.han, n.fr, fun a u e k => ?_, n.new, fun a e => ?_, n.nf⟩
  · rw [upd_ne (ne_of_none e hb)]
    exact n.out a u e k
  · by_cases q : a = b
    · subst q; exact hb
    · rw [upd_ne q] at e
      exact n.stay a e
end
end Mir

namespace Mir
open PySem L2
theorem Nxt.fresh {K : PySem.W.Frag} {io io1 : Io} {F F1 H H1 : Hp} {q : Addr} (n : Nxt io F H io1 F1 H1) (h : H1 q = none) : H q = none := n.stay q h
section
variable {X : Cx} {W : WX} {x y : Str} {i j k0 : Nat} {iter ke : Expr} {it : MI} {key : ME} {rest : List Stmt} {mrest : MS} {p1 p2 p3 p4 p5 p6 p7 p8 p9 p10 p11 p12 p13 : Pos}
end
end Mir

namespace Mir
open PySem L2
end Mir

namespace Mir
open PySem PySem.Spec PyProof.Rows LamX
open L2 (Cx Hp Inv V RelV)
section
variable {X : Cx} {pins : List (Addr × Obj)} {σ : L2.St} {H HZ : Hp} {s s1 : Shared}
end
end Mir

namespace Mir
open PySem L2
structure LamP where
  f : Addr
  c : Addr
  jx : Nat
  by_ : Str
  q : Str
  w : Vl → Sto → Res Vl
section
variable {X : Cx} {W : WX} {x q mk p : Str} {c : Addr} {k kG jx : Nat} {G : LamP → MF} {gparams params : Arguments} {ps : List Str} {e1 e2 body : Expr} {scope : Scope} {p1 lpos pos : Pos} {m1 m2 mb : ME}
end
end Mir

namespace Mir
open PySem L2
section
variable {X : Cx} {W : WX} {e : Expr} {es : List Expr} {mas : MA} {x : Str} {p pos : Pos} {params : Arguments} {ps : List Str} {k j : Nat} {m : MF}
end
end Mir

namespace Mir
open PySem L2
def dfB (K : PySem.W.Frag) (dV : Value) (ds : List P) : Bool := match dV with
  | .ref T => (match K.lookup T with
    | some ⟨_, _, .seq its _, _⟩ => repKs K ds its.toList
    | _ => false)
  | _ => false
def ParD (K : PySem.W.Frag) (fd : FuncData) (params : Arguments) (ds : List P) : Prop := ∃ (x qual : Str) (body : List Stmt) (scope : Scope) (T : Addr) (o : Obj) (its : List Value) (n : Nat) (kV doc pm : Value) (an : Option Addr) (cdv ct : Value) (vs : List V),
  fd = PySem.W.fnOf x qual params body scope (.ref T) kV doc pm an cdv ct ∧ K.lookup T = some o ∧ o.data = .seq its.toArray n ∧ Vals vs its ∧ ∀ F, RepL K F ds vs
structure FunDD (K : PySem.W.Frag) (ds : List P) (x qual : Str) (params : Arguments) (body : List Stmt) (scope : Scope) (f : Addr) (fd : FuncData) : Prop where
  dv : ∃ dvs, FunD K x qual params body scope dvs [] f fd
  par : ParD K fd params ds
structure DefMD where
  d : DefM
  ds : List P
def DefMD.ok (K : PySem.W.Frag) (q : DefMD) : Bool := PySem.W.keepIn K (.ref (q.d.ad K)) && ((match K.lookup (q.d.ad K) with
  | some ⟨_, _, .func fd, _⟩ => PySem.W.codeIn K fd.code q.d.qual && dfB K fd.defaults q.ds
  | _ => false) && !q.ds.isEmpty)
theorem DefMD.funD {K : PySem.W.Frag} {q : DefMD} (e : fnM K (q.d.ad K) = q.d.val) (c : q.ok K = true) : ∃ fd, FunDD K q.ds q.d.name q.d.qual q.d.params q.d.body q.d.scope (q.d.ad K) fd := by
  obtain ⟨d, ds⟩ := q
  unfold DefMD.ok at c
  rw [Bool.and_eq_true] at c
  obtain ⟨hk, c⟩ := c
  rw [Bool.and_eq_true] at c
  obtain ⟨c, hne⟩ := c
  unfold fnM at e
  dsimp only at c e hk hne ⊢
  cases q : K.lookup (d.ad K) with
  | none => rw [q] at c; cases c
  | some o =>
    obtain ⟨oc, od, dt, osl⟩ := o
    rw [q] at c e
    cases dt with
    | func fd =>
      obtain ⟨n1, n2, n3, n4, n5, n6, n7, n8, n9, n10, n11, n12, n13, n14, n15⟩ := fd
      have e2 : (some (n1, n2, n3, n4, n5, n6, n7, n15) : He.FnW) = some (d.name, d.qual, d.params, .stmts d.body, d.scope, mainGlobals, [], builtinsNs) := e
      simp only [Option.some.injEq, Prod.mk.injEq] at e2
      obtain ⟨h1, h2, h3, h4, h5, h6, h7, h9⟩ := e2
      subst h1 h2 h3 h4 h5 h6 h7 h9
      dsimp only at c
      rw [Bool.and_eq_true] at c
      obtain ⟨c1, c2⟩ := c
      unfold dfB at c2
      split at c2
      · rename_i T
        split at c2
        · rename_i cT dT its nT sT hT
          obtain ⟨vs, v1, v2⟩ := repKs_ok c2
          have hv : vs ≠ [] := by
            have l1 := (v2 (fun _ => none)).length
            intro z
            rw [z] at l1
            cases ds with
            | nil => cases hne
            | cons _ _ => simp at l1
          refine ⟨_, ⟨vs, ⟨oc, od, _, _, _, _, _, _, _, osl, rfl, q, c1, .inr ⟨hv, T, _, its.toList, nT, rfl, hT, rfl, v1⟩, .inl rfl⟩, hk⟩, _, _, _, _, T, _, its.toList, nT, _, _, _, _, _, _, vs, rfl, hT, rfl, v1, v2⟩
        · cases c2
      · cases c2
    | _ => cases c
structure GFD (Pg : Program) (w : World) (K : PySem.W.Frag) (mg : Str → Option Value) (base : Heap) (x : Str) (params : Arguments) (ps : List Str) (ds : List P) (k : Nat) (m : MF) : Prop where
  gl : mg x = some (.ref (He.ga K x))
  kp : PySem.W.keepIn K (.ref (He.ga K x)) = true
  fn : ∃ fd, FnG Pg w K mg base k (He.ga K x) fd ps (spM K m) ∧ ParD K fd params ds
def KwD (params : Arguments) (ps ks : List Str) (n nd : Nat) (pm : List Nat) : Prop := ∀ (x qual : Str) (body : List Stmt) (scope : Scope) (T : Addr) (kV doc pmv : Value) (an : Option Addr) (cdv ct : Value) (us ws its : List Value), us.length = n → ws.length = ks.length → its.length = nd →
  ∃ g, bindArgs (PySem.W.fnOf x qual params body scope (.ref T) kV doc pmv an cdv ct) ⟨us, ks.zip ws⟩ = seqItems? (.ref T) >>= g ∧ g (some its.toArray) = pure (ps.zip (permL .none pm (us ++ ws ++ its)))
section
variable {X : Cx} {W : WX} {e : Expr} {es : List Expr} {mas mks : MA} {x : Str} {p pos : Pos} {params : Arguments} {ps ks : List Str} {ds : List P} {k j n : Nat} {m : MF} {kws : List Keyword} {pm : List Nat}
end
end Mir

namespace Law
open PySem PySem.Spec PyProof.Rows L2 Mir
def isiCs : List Str := ["Rows", "Term"]
def exT : Sb := ([("InvalidText", "InvalidText", true)] : Sb)
def top (i : Nat) : Stmt := PySem.Challenge.pw_closedinner_k03_whole_texts_of_terms.main.body.getD i (.Pass ⟨0, 0, 0, 0⟩)
def inC (s : Stmt) (j : Nat) : Stmt := match s with
  | .ClassDef (body := b) .. => b.getD j (.Pass ⟨0, 0, 0, 0⟩)
  | _ => .Pass ⟨0, 0, 0, 0⟩
abbrev s__law_term_text : Stmt := top 17
abbrev s__law_ladle : Stmt := top 14
abbrev s__law_pick : Stmt := top 15
abbrev s__law_drawn_term : Stmt := top 16
abbrev s__law_bent_text : Stmt := top 19
abbrev s_Rows_number_of : Stmt := inC (top 8) 1
abbrev s_read_into : Stmt := top 9
abbrev s_Rows___init__ : Stmt := inC (top 8) 0
abbrev s_is_text : Stmt := top 10
abbrev s_Term___init__ : Stmt := inC (top 11) 0
abbrev s_Term___repr__ : Stmt := inC (top 11) 13
abbrev s_Term_text : Stmt := inC (top 11) 1
abbrev s__law_told : Stmt := top 20
abbrev s__law_is_term : Stmt := top 18
abbrev s__law_long : Stmt := top 21
abbrev s__law_right : Stmt := top 22
abbrev s__law_urn_of : Stmt := top 13
abbrev s_law : Stmt := top 23
abbrev s_InvalidText___init__ : Stmt := inC (top 3) 0
def ck (K : PySem.W.Frag) : Bool := (He.Fa.free "abs").ok K && ((He.Fa.free "all").ok K && ((He.Fa.free "divmod").ok K && ((He.Fa.free "enumerate").ok K && ((He.Fa.free "int").ok K && ((He.Fa.free "isinstance").ok K && ((He.Fa.free "len").ok K && ((He.Fa.free "max").ok K && ((He.Fa.free "min").ok K && ((He.Fa.free "range").ok K && ((He.Fa.free "repr").ok K && ((He.Fa.free "str").ok K && (gloB K "DEEDS" (.tup [(.str [99]), (.str [105]), (.str [110])]) && (gloB K "MOST_SIGNS" (.int 300) && (gloB K "PLAIN" (.tup [(.str [120]), (.str [121]), (.str [122]), (.str [48]), (.str [49])]) && ((He.Fa.glo "InvalidText").ok K && ((He.Fa.glo "Rows").ok K && ((He.Fa.glo "Term").ok K && ((He.Fa.glo "WrongValue").ok K && ((He.Fa.glo "_law_bent_text").ok K && ((He.Fa.glo "_law_drawn_term").ok K && ((He.Fa.glo "_law_is_term").ok K && ((He.Fa.glo "_law_ladle").ok K && ((He.Fa.glo "_law_long").ok K && ((He.Fa.glo "_law_pick").ok K && ((He.Fa.glo "_law_right").ok K && ((He.Fa.glo "_law_term_text").ok K && ((He.Fa.glo "_law_told").ok K && ((He.Fa.glo "_law_urn_of").ok K && ((He.Fa.glo "is_text").ok K && ((He.Fa.glo "law").ok K && ((He.Fa.glo "read_into").ok K && ((He.Fa.cls "Rows").ok K && ((He.Fa.cls "Term").ok K && ((He.Fa.noat "Rows" "found").ok K && ((He.Fa.noat "Rows" "listed").ok K && ((He.Fa.noat "Term" "told").ok K && (exkB K "InvalidText" && (exiB K "InvalidText" && (exnB K "InvalidText" "given" && (kitcB K "InvalidText" "WrongValue" true && (sbB K exT && ((He.Fa.meth "Rows" "number_of").ok K && ((He.Fa.mkr "Rows").ok K && ((He.Fa.mkr "Term").ok K && ((He.Fa.meth "Term" "__repr__").ok K && (propB K "Term" "text" && (isiB K isiCs)))))))))))))))))))))))))))))))))))))))))))))))
def fns : List DefM := [⟨fun K => He.ga K "_law_term_text", "_law_term_text", "_law_term_text", defArgs s__law_term_text, defBody s__law_term_text, defScope s__law_term_text⟩,
  ⟨fun K => He.ga K "_law_ladle", "_law_ladle", "_law_ladle", defArgs s__law_ladle, defBody s__law_ladle, defScope s__law_ladle⟩,
  ⟨fun K => He.ga K "_law_pick", "_law_pick", "_law_pick", defArgs s__law_pick, defBody s__law_pick, defScope s__law_pick⟩,
  ⟨fun K => He.ga K "_law_drawn_term", "_law_drawn_term", "_law_drawn_term", defArgs s__law_drawn_term, defBody s__law_drawn_term, defScope s__law_drawn_term⟩,
  ⟨fun K => He.ga K "_law_bent_text", "_law_bent_text", "_law_bent_text", defArgs s__law_bent_text, defBody s__law_bent_text, defScope s__law_bent_text⟩,
  ⟨fun K => He.ma K (He.ga K "Rows") "number_of", "number_of", "Rows.number_of", defArgs s_Rows_number_of, defBody s_Rows_number_of, defScope s_Rows_number_of⟩,
  ⟨fun K => He.ga K "read_into", "read_into", "read_into", defArgs s_read_into, defBody s_read_into, defScope s_read_into⟩,
  ⟨fun K => He.ma K (He.ga K "Rows") "__init__", "__init__", "Rows.__init__", defArgs s_Rows___init__, defBody s_Rows___init__, defScope s_Rows___init__⟩,
  ⟨fun K => He.ga K "is_text", "is_text", "is_text", defArgs s_is_text, defBody s_is_text, defScope s_is_text⟩,
  ⟨fun K => He.ma K (He.ga K "Term") "__init__", "__init__", "Term.__init__", defArgs s_Term___init__, defBody s_Term___init__, defScope s_Term___init__⟩,
  ⟨fun K => He.ma K (He.ga K "Term") "__repr__", "__repr__", "Term.__repr__", defArgs s_Term___repr__, defBody s_Term___repr__, defScope s_Term___repr__⟩,
  ⟨fun K => pg K "Term" "text", "text", "Term.text", defArgs s_Term_text, defBody s_Term_text, defScope s_Term_text⟩,
  ⟨fun K => He.ga K "_law_told", "_law_told", "_law_told", defArgs s__law_told, defBody s__law_told, defScope s__law_told⟩,
  ⟨fun K => He.ga K "_law_is_term", "_law_is_term", "_law_is_term", defArgs s__law_is_term, defBody s__law_is_term, defScope s__law_is_term⟩,
  ⟨fun K => He.ga K "_law_long", "_law_long", "_law_long", defArgs s__law_long, defBody s__law_long, defScope s__law_long⟩,
  ⟨fun K => He.ga K "_law_right", "_law_right", "_law_right", defArgs s__law_right, defBody s__law_right, defScope s__law_right⟩,
  ⟨fun K => He.ga K "_law_urn_of", "_law_urn_of", "_law_urn_of", defArgs s__law_urn_of, defBody s__law_urn_of, defScope s__law_urn_of⟩,
  ⟨fun K => He.ga K "law", "law", "law", defArgs s_law, defBody s_law, defScope s_law⟩,
  ⟨fun K => He.ma K (He.ga K "InvalidText") "__init__", "__init__", "InvalidText.__init__", defArgs s_InvalidText___init__, defBody s_InvalidText___init__, defScope s_InvalidText___init__⟩]
abbrev R : PySem.W.OpenRow := PySem.W.OpenLaw.row PySem.Challenge.rw_closedinner_k03_whole_texts_of_terms

abbrev hk : PySem.W.Hook := hookM 6 ck fns
def ob (s : PySem.W.SharedT) : AlM := obsMG 6 ck fns (HandSHeadRun.getT s)
section
open HandSHeadRun PySem.W PySem.Calls
def loose : List PySem.Str := (("_wall" : PySem.Str) :: ("WrongValue" : PySem.Str) :: ("InvalidText" : PySem.Str) :: ("MOST_SIGNS" : PySem.Str) :: ("PLAIN" : PySem.Str) :: ("DEEDS" : PySem.Str) :: ("Rows" : PySem.Str) :: ("read_into" : PySem.Str) :: ("is_text" : PySem.Str) :: ("Term" : PySem.Str) :: ("_law_urn_of" : PySem.Str) :: ("_law_ladle" : PySem.Str) :: ("_law_pick" : PySem.Str) :: ("_law_drawn_term" : PySem.Str) :: ("_law_term_text" : PySem.Str) :: ("_law_is_term" : PySem.Str) :: ("_law_bent_text" : PySem.Str) :: ("_law_told" : PySem.Str) :: ("_law_long" : PySem.Str) :: ("_law_right" : PySem.Str) :: [])
theorem tri {α β γ δ : Type} {o : Option α} {f : α → β} {g : α → γ} {h : α → δ} {x : β} {y : γ} {z : δ} (a : o.map f = some x) (b : o.map g = some y) (c : o.map h = some z) : o.map (fun s => (f s, g s, h s)) = some (x, y, z) := by
  cases o with
  | none => cases a
  | some s =>
    cases a
    cases b
    cases c
    rfl
theorem run_a (w : World) (os : OsState) : (HandSHeadRun.endF (stepQ (denQ tabQ) R.prog w) 5000 R.prog w os).map (fun s => looksF R.prog (boot_heap w.params) s.abs) = some true := by kernel_rfl
theorem run_b (w : World) (os : OsState) : (HandSHeadRun.endF (stepQ (denQ tabQ) R.prog w) 5000 R.prog w os).map (fun s => seenQ (view R.prog [23]) loose (importedModules R.prog.main.body) (fun s => xlAt (view R.prog [23]) [] s && recOk R.toRowW.records s) s.abs) = some (openGood (view R.prog [23]) loose) := by kernel_rfl
theorem run_c (w : World) (os : OsState) : (HandSHeadRun.endF (stepQ (denQ tabQ) R.prog w) 5000 R.prog w os).map (fun s => ob s) = some (hk.val w) := by kernel_rfl
theorem run (w : World) : HandSHeadRun.RunEq R (PySem.W.view R.prog [23]) hk ob 5000 loose w := fun os => tri (run_a w os) (run_b w os) (run_c w os)
end
end Law

namespace Mir
open PySem L2
section
variable {X : Cx} {W : WX} {pos : Pos} {keys : List (Option Expr)} {values : List Expr}
end
end Mir

namespace Mir
open PySem L2
section
variable {X : Cx} {W : WX} {a o : Expr} {ma mo : ME} {apos pos : Pos}
end
end Mir

namespace Mir
open PySem PySem.Spec PyProof.Rows L2
section
variable {K : PySem.W.Frag} {io io1 : Io} {F F1 H H1 : Hp} {S S1 : Sto} {Q : VK} {E : XK}
variable {X : Cx}
end
section
variable {X : Cx} {W : WX} {a o : Expr} {ma mo : ME} {apos pos p : Pos}
end
section
variable {K : PySem.W.Frag} {io io1 : Io} {F F1 H H1 : Hp} {S S1 : Sto} {Q : VK} {E : XK}
end
section
variable {P : Program} {w : World} {K : PySem.W.Frag} {mg : Str → Option Value} {base : Heap} {x qual : Str} {params : Arguments} {body : List Stmt} {scope : Scope} {dvs : List V} {kws : List (Str × V)} {f : Addr} {fd : FuncData} {N ps : List Str} {k nl : Nat} {m : MS}
end
end Mir

namespace HT
open PySem PySem.Spec PyProof.Rows
end HT
namespace Mir
open PySem PySem.Spec PyProof.Rows L2
section
variable {X : Cx}
end
section
variable {X : Cx} {W : WX} {e : Expr} {me : ME}
end
end Mir

namespace IdE
open PySem PySem.Spec PyProof.Rows PySem.SeqAt
section
variable {M : Model} {prog : Program} {w : World} {A : Around} {E : Value → Shared → Prop} {s : Shared} {K : PySem.W.Frag} {x y C D f : Addr} {ox oy : Obj} {od od' : Option Obj}
end
end IdE

namespace Mir
open PySem PySem.Spec PyProof.Rows L2
section
variable {X : Cx} {W : WX} {a b : Expr} {ma mb : ME} {x y : Str} {pos : Pos} {params : Arguments} {ps : List Str} {k j : Nat} {m : MF}
end
end Mir

namespace Rw
open PySem PySem.Spec PyProof.Rows L2 Mir
section
variable {X : Cx} {pins : List (Addr × Obj)} {σ : L2.St} {H : Hp} {s : Shared}
def RawL (X : Cx) (s : Shared) (x : Str) (u : Value) : Prop := s.heap.nsMap X.env.locals x = some u
theorem store_raw {M : Model} {A : Around} {E : Value → Shared → Prop} {i : Nat} {x : Str} {v : V} {u : Value} {Q : Unit → Shared → Prop} (I : Inv X pins σ H s) (hN : X.N.Nodup) (hi : X.N[i]? = some x) (hk : X.env.kindOf x = some .local) (r : RelV v u)
    (h : ∀ s', 1 ≤ s'.toks → Inv X pins (σ.set i (some v)) H s' → RawL X s' x u → (∀ y w, y ≠ x → RawL X s y w → RawL X s' y w) → Q () s') : wpAny M A (storeName X.env x u) Q E s := by
  obtain ⟨m, hn, hl⟩ := id I.loc
  have hcls : (X.env.scope.kind == .class || (X.env.scope.kind == .module && X.env.locals != X.env.globals)) = false := by rw [I.ok.kind]; rfl
  have hiσ : i < σ.length := by rw [I.len]; exact (List.getElem?_eq_some_iff.mp hi).1
  have cne := I.cne
  have tracked : ∀ {a : Addr} {h' : Heap}, (∃ o, s.heap.get? a = some o ∧ H a = none) → Heap.SameBut a s.heap h' → HOk X.prog X.w H h' := fun {a h'} ha hs b ob e => by
    obtain ⟨_, _, hfree⟩ := ha
    refine (I.hok b ob e).stay (fun c w' hc q => (hs.2 c ?_).trans q) (fun _ q => q) fun _ _ q => q
    rintro rfl
    rcases hc with rfl | hc
    · rw [hfree] at e; cases e
    · rw [hfree] at hc; cases hc
  refine wpAny_storeName_local hk hn (fun h' hn' hs => ?_) hcls
  obtain ⟨oL, _, _, hoL, _⟩ := id hn
  have em := hn.eq_nsMap
  have em' := hn'.eq_nsMap
  refine h _ (by show 1 ≤ s.toks + 1; omega) ⟨I.ok, I.os, I.bare, ⟨fun b o e n hb hx => ?_, fun b o e n hb hx => ?_, I.base.free, fun b o e hx => ?_, I.base.tups, I.base.frzs, I.base.tbls⟩, ⟨_, hn', fun j y v' e1 e2 e3 => ?_⟩, fun y c e => ?_, I.free, I.freeC, fun p hp => ?_, tracked ⟨oL, hoL, I.free⟩ hs, by simpa using I.len⟩ ?_ ?_
  · exact (hs.2 b (Nat.ne_of_lt (Nat.lt_of_lt_of_le (Heap.lt_size e) I.ok.above))).trans (I.base.keep b o e n hb hx)
  · obtain ⟨sl, e1⟩ := I.base.slot b o e n hb hx
    exact ⟨sl, (hs.2 b (Nat.ne_of_lt (Nat.lt_of_lt_of_le (Heap.lt_size e) I.ok.above))).trans e1⟩
  · obtain ⟨o', e1⟩ := I.base.there b o e hx
    exact ⟨o', (hs.2 b (Nat.ne_of_lt (Nat.lt_of_lt_of_le (Heap.lt_size e) I.ok.above))).trans e1⟩
  · by_cases hj : j = i
    · subst hj
      rw [hi] at e1; cases e1
      rw [List.getElem?_set_self hiσ] at e2
      cases e2
      exact ⟨u, r, .inl ⟨hk, by simp⟩⟩
    · rw [List.getElem?_set_ne (Ne.symm hj)] at e2
      obtain ⟨u', r', q⟩ := hl j y v' e1 e2 e3
      refine ⟨u', r', ?_⟩
      rcases q with ⟨k, e⟩ | ⟨k, c, e, z⟩
      · refine .inl ⟨k, ?_⟩
        have : y ≠ x := fun e => hj (nodup_ix hN e1 (e ▸ hi))
        simp [this, e]
      · exact .inr ⟨k, c, e, z.sameBut hs (cne y c e)⟩
  · obtain ⟨w', z⟩ := I.cell y c e
    exact ⟨w', z.sameBut hs (cne y c e)⟩
  · obtain ⟨e, n, ne, nf, d⟩ := I.pin p hp
    exact ⟨(hs.2 p.1 ne).trans e, n, ne, nf, d⟩
  · show h'.nsMap X.env.locals x = some u
    rw [← em']
    simp
  · intro y w hy hw
    show h'.nsMap X.env.locals y = some w
    have hw : s.heap.nsMap X.env.locals y = some w := hw
    rw [← em'] 
    rw [← em] at hw
    simp [hy, hw]
theorem load_raw {x : Str} {u : Value} {pos : Pos} {Q E : Value → Shared → Prop} (I : Inv X pins σ H s) (hk : X.env.kindOf x = some .local) (hr : RawL X s x u) (fin : Q u s) (hd : (x == ("__debug__" : Str)) = false := by decide) : wpAny (model X.prog X.w) X.A (eval (.Name x pos) X.env) Q E s := by
  obtain ⟨m, hn, _⟩ := I.loc
  have hm : m x = some u := by
    rw [hn.eq_nsMap]
    exact hr
  exact wpAny_Name (wpAny_loadName_local I.ok.kind hk hn hm fin) hd
end
section
variable {X : Cx}
end
end Rw

namespace Rw
open PySem PySem.Spec PyProof.Rows L2 Mir
section
variable {X : Cx}
theorem PAT.of {es : List Expr} {t : TA} (h : PA X es t) : PAT X es t := fun pos pins s σ H Q _ I q => h.run pos pins s σ H Q I q
end
end Rw
namespace Mir
open PySem L2
theorem repl_strOf {x y z : List Nat} (hy : 1 ≤ y.length) : Txt.replace (strOf x) (strOf y) (strOf z) = strOf (StrLaws.replL y z x) := by
  have h := StrLaws.replace_list (x := strOf x) (y := strOf y) (z := strOf z) (by rw [strOf_length]; exact hy)
  rw [strOf_cps, strOf_cps, strOf_cps] at h
  rw [← h, strOf_back]
section
variable {X : Cx} {W : WX} {iter : Expr} {it : MI} {a b k : Str} {ia ib ik n0 : Nat} {p1 p2 p3 p4 p5 p6 tpos apos cpos pos fpos : Pos}
end
section
variable {X : Cx} {W : WX} {es : List Expr} {mas : MA} {rest : List Stmt} {mrest : MS}
end
end Mir

namespace Rw
open PySem PySem.Spec PyProof.Rows
section
variable {M : Model} {A : Around} {E : Value → Shared → Prop} {s₀ s : Shared} {m cm : Str → Option Value} {env : PySem.Env}
theorem stLCT {n : Str} {v : Value} {Q : Unit → Shared → Prop} (x : InCallC s₀ env.locals m env.cells cm s) (hk : env.scope.kind = .function) (hl : env.kindOf n = some .local)
    (h : ∀ s', 1 ≤ s'.toks → InCallC s₀ env.locals (fun y => if y = n then some v else m y) env.cells cm s' → Q () s') : wpAny M A (storeName env n v) Q E s := by
  refine wpAny_storeName_local hl x.toInCall.ns (fun h' hn' hs' => h _ (by show 1 ≤ s.toks + 1; omega) ⟨⟨?_, hn', fun b o e => ?_, x.toInCall.fresh⟩, fun k c hc => ?_, x.apart, x.above⟩) (by rw [hk]; rfl)
  · obtain ⟨h₁, tk, rfl⟩ := x.toInCall.same
    exact ⟨h', _, rfl⟩
  · exact hs'.extBut b o (Nat.ne_of_lt (Nat.lt_of_lt_of_le (Heap.lt_size e) x.toInCall.fresh)) (x.toInCall.keep b o e)
  · exact (x.cell k c hc).sameBut hs' (Nat.ne_of_gt (x.above k c (mem_of_lookup hc)))
theorem wpAny_bindParamsT (f : Str × Value → PUnit → Sem (ForInStep PUnit)) (hf : ∀ n v u, f (n, v) u = (do storeName env n v; pure (.yield ⟨⟩))) (hk : env.scope.kind = .function) :
    ∀ (binds : List (Str × Value)) (m cm : Str → Option Value) (s : Shared) (Q : PUnit → Shared → Prop), InCallC s₀ env.locals m env.cells cm s → (1 ≤ s.toks ∨ binds ≠ []) →
      (∀ x ∈ binds, env.kindOf x.1 = some .local) →
      (∀ s', 1 ≤ s'.toks → InCallC s₀ env.locals (bindL env.kindOf binds m) env.cells (bindC env.kindOf binds cm) s' → Q ⟨⟩ s') → wpAny M A (forIn binds ⟨⟩ f) Q E s
  | [], m, cm, s, Q, x, ht, _, h => by
    rw [List.forIn_nil]
    exact wpAny_pure (h s (ht.elim id fun z => absurd rfl z) x)
  | (n, v) :: r, m, cm, s, Q, x, ht, hkind, h => by
    rw [List.forIn_cons, hf]
    have hr : ∀ y ∈ r, env.kindOf y.1 = some .local := fun y hy => hkind y (List.mem_cons_of_mem _ hy)
    have hl := hkind (n, v) List.mem_cons_self
    refine wpAny_bind (wpAny_bind (stLCT x hk hl fun s' ht' x' => wpAny_pure (wpAny_bindParamsT f hf hk r _ _ s' Q x' (.inl ht') hr fun s'' h1 x'' => h s'' h1 ?_)))
    unfold bindL bindC; rw [if_pos hl, if_pos hl]; exact x''
theorem wpAny_newFunctionEnv_cellsT {scope : Scope} {globals : Addr} {binds : List (Str × Value)} {qual : Str} {func : Option Addr} {code : Value} {builtins : Addr} {Q : PySem.Env → Shared → Prop}
    (hk : scope.kind = .function) (hne : binds ≠ [])
    (hkind : ∀ x ∈ binds, scope.names.lookup x.1 = some .local)
    (hQ : ∀ env, env = newEnv scope s.heap.objs.size globals (cellsFrom (s.heap.objs.size + 1) scope.names []) qual func code none builtins →
      ∀ s', 1 ≤ s'.toks → InCallC s env.locals (bindL env.kindOf binds fun _ => none) env.cells (bindC env.kindOf binds fun _ => none) s' → Q env s') :
    wpAny M A (newFunctionEnv scope globals [] binds qual func code none builtins) Q E s := by
  simp only [newFunctionEnv, Option.isSome_none, Bool.false_eq_true, if_false]
  refine wpAny_bind (wpAny_alloc ?_)
  refine wpAny_bind (wpAny_layCells _ (fun name kind cells => by cases hkc : kind == NameKind.cell <;> simp [hkc]) _ _ _ _ ?_)
  have ok := cellsFrom_ok scope.names (s.heap.push { cls := .type "frame", data := .dict #[] }) (s.heap.objs.size + 1) [] ⟨fun _ _ hm => (nomatch hm), List.Pairwise.nil⟩ (by rw [Heap.size_push]; exact Nat.le_refl _)
  rw [Heap.size_push] at ok
  rw [show ({ s with heap := s.heap.push { cls := .type "frame", data := .dict #[] } } : Shared).heap.objs.size = s.heap.objs.size + 1 from Heap.size_push ..]
  refine wpAny_bind (wpAny_bindParamsT (s₀ := s) (env := newEnv scope s.heap.objs.size globals (cellsFrom (s.heap.objs.size + 1) scope.names []) qual func code none builtins)
    _ (fun _ _ _ => rfl) hk binds (fun _ => none) (fun _ => none) _ _
    ⟨⟨⟨_, _, rfl⟩, (Heap.Ns.new s.heap (.type "frame")).keeps (pushCells_keeps _ _), fun b o e => pushCells_keeps _ _ b o (Heap.get?_push_of_some _ e), Nat.le_refl _⟩,
      fun n c hc => (ok.empty n c (mem_of_lookup hc)).1, ok.apart, fun n c hm => (ok.empty n c hm).2⟩ (.inr hne)
    hkind fun s' ht x => wpAny_pure (hQ _ rfl s' ht x))
end
end Rw
namespace Mir
open PySem L2
theorem fnG_ofT {P : Program} {w : World} {K : PySem.W.Frag} {mg : Str → Option Value} {base : Heap} {x qual : Str} {params : Arguments} {body : List Stmt} {scope : Scope} {dvs : List V} {kws : List (Str × V)} {f : Addr} {fd : FuncData} {N ps : List Str} {k : Nat} {sp : Sp}
    (F : FunD K x qual params body scope dvs kws f fd) (S : FnScope N ps scope) (hne : ps ≠ []) (hloc : ∀ y ∈ ps, scope.names.lookup y = some .local) (len : ∀ vs H Q E, sp vs H Q E → vs.length = ps.length)
    (hbody : ∀ (cdv : Value) (A : Around) (outer : List PySem.Env) (s : Shared) (H : Hp) (vs : List V) (Q : VK) (E : XK), fd.code = cdv → RoomG k (A.deeper (PyProof.Rows.envOfC qual scope s.heap.objs.size f cdv)) → sp vs H Q E →
      ∃ t, PSsT (cxOf (L2.CX P w) P w K mg base N qual scope f cdv A outer s H E) body t ∧ t { nx := fun _ H' => Q .non H', rt := Q } (L2.start N vs) H) : FnG P w K mg base (k + 1) f fd ps sp := by
  obtain ⟨oc, od, dV, kV, doc, pm, an, cdv, ct, osl, rfl, lk, hcd, _, _⟩ := F.ex
  refine ⟨len, fun A outer s H args us vs Q E hr e0 hb r hsp => ?_⟩
  have KX : K.In s.heap := e0.mod.kin.keeps fun b o e => (e0.bs b o e).1
  have lim : s.heap.NoLimit := e0.mod.nolimit.keeps fun b o e => (e0.bs b o e).1
  have hl : us.length = ps.length := by rw [← r.length]; exact len _ _ _ _ hsp
  have hzip : ps.zip us ≠ [] := fun z => by
    have : (ps.zip us).length = 0 := by rw [z]; rfl
    rw [List.length_zip, hl, Nat.min_self] at this
    exact hne (List.length_eq_zero_iff.mp this)
  refine codeAny_call_function hr.r.depth (KX _ _ lk) rfl S.co S.gen rfl (PySem.W.codeRec_of KX hcd) (hb _ _ _ _ ?_)
  refine Rw.wpAny_newFunctionEnv_cellsT S.kind hzip (fun y hy => hloc y.1 (List.of_mem_zip hy).1) fun env he s1 ht1 x => ?_
  subst he
  obtain ⟨t, ht, hq⟩ := hbody cdv A outer s H vs Q E rfl (hr.deeper _) hsp
  refine ⟨lim.keeps x.toInCall.keep, codeAny_func ?_⟩
  refine wpAny_mono (ht [] s1 (L2.start N vs) H _ ht1 (inv_start S hr.r.hd e0 (len _ _ _ _ hsp) r x) hq) (fun fl s' hs => ?_) fun e s' hs => hs
  cases fl with
  | ret u =>
    obtain ⟨v, σ', H', J, rv, q⟩ := hs
    exact ⟨v, H', J.os, J.bare, J.base, J.hok, rv, q⟩
  | next =>
    obtain ⟨σ', H', J, q⟩ := hs
    exact ⟨.non, H', J.os, J.bare, J.base, J.hok, rfl, q⟩
  | brk =>
    obtain ⟨_, _, _, q⟩ := hs
    exact q.elim
  | cont =>
    obtain ⟨_, _, _, q⟩ := hs
    exact q.elim
def OSsT (X : Cx) (W : WX) (st : List Stmt) (m : MS) : Prop := ∃ t, PSsT X st t ∧ ∀ (ρ : En) (S : Sto) (io : Io) (F : Hp) (σ : St) (H : Hp) (D : Ends), Sta X.K io F S H → Env X.K io F ρ σ →
  RS X.K (m ρ S) io F H D W → t D σ H
section
variable {P : Program} {w : World} {K : PySem.W.Frag} {mg : Str → Option Value} {base : Heap} {x qual : Str} {params : Arguments} {body : List Stmt} {scope : Scope} {dvs : List V} {kws : List (Str × V)} {f : Addr} {fd : FuncData} {N ps : List Str} {k nl : Nat} {m : MS}
theorem fn_okT (F : FunD K x qual params body scope dvs kws f fd) (sc : FnScope N ps scope) (hN : N.length = ps.length + nl)
    (hb : ∀ (cdv : Value) (A : Around) (outer : List PySem.Env) (s : Shared) (H : Hp) (E : XK), RoomG k (A.deeper (PyProof.Rows.envOfC qual scope s.heap.objs.size f cdv)) → OSsT (cxOf (L2.CX P w) P w K mg base N qual scope f cdv A outer s H E) (fun c d _ H' => E c d H') body m)
    (hne : ps ≠ [] := by simp) (hloc : ∀ y ∈ ps, scope.names.lookup y = some .local := by decide +kernel) :
    FnG P w K mg base (k + 1) f fd ps (spM K (mkF ps.length nl m)) := by
  refine fnG_ofT F sc hne hloc (fun vs H Q E h => spM_len h) fun cdv A outer s H vs Q E _ hr h => ?_
  obtain ⟨t, pt, ht⟩ := hb cdv A outer s H E hr
  refine ⟨t, pt, ?_⟩
  have hl := spM_len h
  obtain ⟨io, FF, S, ds, st, r, h⟩ := h
  have hd : ds.length = ps.length := by rw [← r.length]; exact hl
  unfold mkF at h
  rw [if_pos hd] at h
  have e0 := Env.start (K := K) (io := io) (F := FF) nl r
  have hst : L2.start N vs = vs.map some ++ List.replicate nl none := by
    unfold L2.start
    rw [hN, hl]
    congr 2
    omega
  rw [hst]
  refine ht _ S io FF _ H _ st e0 ?_
  show RS K (m (ds.map some ++ List.replicate nl none) S) io FF H { nx := fun _ H' => Q .non H', rt := Q } (fun c d _ H' => E c d H')
  cases q : m (ds.map some ++ List.replicate nl none) S with
  | bad => rw [q] at h; exact h.elim
  | ok fl S1 =>
    rw [q] at h
    cases fl with
    | nx ρ => exact fun io1 F1 H1 σ1 nx s1 en1 => h (io1.take S.length) F1 H1 .non (nx.cut st.len) (s1.cut _) rfl
    | rt d => exact fun io1 F1 H1 v nx s1 r1 => ret_ok st.len nx s1 r1 h
    | bk ρ => exact h.elim
    | ct ρ => exact h.elim
    | xc ρ c x => exact fun io1 F1 H1 d σ1 nx s1 en1 xr => h (io1.take S.length) F1 H1 d (nx.cut st.len) (s1.cut _) xr
end
section
variable {X : Cx} {W : WX} {es : List Expr} {mas : MA} {rest : List Stmt} {mrest : MS}
end
end Mir

namespace Mir
open PySem L2
abbrev MD := List Vl → Sto → Option (List P × List P × Sto)
section
variable {X : Cx} {W : WX} {x y : Str} {i j k0 : Nat} {iter ke : Expr} {it : MI} {key : ME} {p1 p2 p3 p4 p5 p6 p8 p10 p12 p13 p14 p15 : Pos}
end
section
variable {P : Program} {w : World} {K : PySem.W.Frag} {mg : Str → Option Value} {base : Heap} {x qual : Str} {params : Arguments} {body : List Stmt} {scope : Scope} {dvs : List V} {kws : List (Str × V)} {f : Addr} {fd : FuncData} {N ps : List Str} {k nl i j : Nat} {it : MI} {key : ME}
end
section
variable {X : Cx} {W : WX} {e ke : Expr} {es : List Expr} {mas : MA} {key : ME} {x : Str} {p pos pos2 apos mpos p0 : Pos} {params : Arguments} {ps : List Str} {k j : Nat} {m : MD}
end
end Mir

namespace Sx
open PySem PySem.W PySem.Calls PyProof.Rows PySem.SeqAt
section
variable {A : Around} {s : Shared}
end
section
variable {prog : Program} {w : World} {A : Around} {E : Value → Shared → Prop} {s : Shared}
end
section
variable {M : Model} {A : Around} {E : Value → Shared → Prop} {s : Shared}
end
section
variable {prog : Program} {w : World} {A : Around} {s : Shared}
end
end Sx
namespace Mir
open PySem L2
section
variable {X : Cx} {k : Nat}
end
section
variable {K : PySem.W.Frag}
end
section
variable {X : Cx} {W : WX} {a : Expr} {ma : ME} {pos p : Pos} {k : Nat}
end
end Mir

namespace Dx
open PySem PySem.Spec PyProof.Rows L2
section
variable {X : Cx}
end
end Dx
namespace Mir
open PySem L2
section
variable {X : Cx} {W : WX} {a b : Expr} {ma mb : ME} {pos : Pos} {k : Nat}
end
end Mir

namespace Mir
open PySem L2
section
variable {K : PySem.W.Frag} {Q : VK} {E : XK}
end
section
variable {X : Cx} {W : WX} {tg iter kx vx : Expr} {it : MI} {g : MG} {ke ve : ME} {js : List Nat} {scope : Scope} {own : List (Str × Nat)} {pos : Pos}
end
section
variable {X : Cx} {W : WX} {o : Expr} {mo : ME} {td : TE} {apos pos p mpos : Pos}
end
end Mir

namespace Mir
open PySem PySem.Spec L2
section
variable (X : Cx) (i : Nat)
end
section
variable {X : Cx} {i : Nat} {s : Stmt} {ss as : List Stmt} {e cc o a b : Expr} {m m2 : Str → XD → MS} {me ma : Str → XD → ME} {mt : Str → XD → MT} {mo : ME} {ms : MS} {pos apos p : Pos}
end
section
variable {X : Cx} {i : Nat} {pos p : Pos}
end
abbrev MSx := Str → XD → Sto → Res Vl
section
variable {P : Program} {w : World} {K : PySem.W.Frag} {mg : Str → Option Value} {base : Heap} {x qual p : Str} {params : Arguments} {body : List Stmt} {scope : Scope} {f : Addr} {fd : FuncData} {N : List Str} {nl : Nat} {m : Str → XD → MS} {mS : MSx}
end
end Mir

namespace Mir
open PySem L2
end Mir

namespace Mir
open PySem L2
section
variable {X : Cx} {pins : List (Addr × Obj)} {σ : L2.St} {H : Hp} {s : Shared}
end
section
variable {X : Cx} {W : WX} {a b c : Expr} {ma mb mc : ME} {pos : Pos}
end
end Mir

namespace Mir
open PySem L2 PySem.Spec PyProof.Rows
section
variable {X : Cx}
end
section
variable {X : Cx} {W : WX} {a b : Expr} {ma mb : ME} {pos : Pos}
end
end Mir

namespace Mir
open PySem L2
def FVs (X : Cx) (ps ks : List Str) (ds : List P) (n : Nat) (pm : List Nat) (j : Nat) : List (Str × MF) → Prop
  | [] => True
  | q :: r => (∃ params k, k ≤ j ∧ GFD X.prog X.w X.K X.mg X.base q.1 params ps ds k q.2 ∧ KwD params ps ks n ds.length pm) ∧ FVs X ps ks ds n pm j r
theorem FVs.at {X : Cx} {ps ks : List Str} {ds : List P} {n : Nat} {pm : List Nat} {j : Nat} {g : Str} {m : MF} : ∀ {tb : List (Str × MF)}, FVs X ps ks ds n pm j tb → tb.lookup g = some m → ∃ params k, k ≤ j ∧ GFD X.prog X.w X.K X.mg X.base g params ps ds k m ∧ KwD params ps ks n ds.length pm
  | [], _, e => by cases e
  | (g', m') :: r, h, e => by
    rw [List.lookup_cons] at e
    by_cases hg : g = g'
    · subst hg
      rw [beq_self_eq_true] at e
      cases e
      exact h.1
    · rw [beq_eq_false_iff_ne.mpr hg] at e
      exact FVs.at h.2 e
section
variable {X : Cx} {W : WX} {e : Expr} {es : List Expr} {mas mks : MA} {x : Str} {p pos : Pos} {ps ks : List Str} {ds : List P} {j n i : Nat} {tb : List (Str × MF)} {kws : List Keyword} {pm : List Nat}
end
end Mir

namespace L2
open PySem PySem.Spec PyProof.Rows
section
variable {P : Program} {w : World} {A : Around} {E : Value → Shared → Prop} {s : Shared}
end
end L2
namespace Mir
open PySem L2 PyProof.Rows
section
variable {X : Cx} {W : WX} {a : Expr} {ma : ME} {pos p pos2 p2 : Pos}
end
end Mir

namespace Mir
open PySem L2
section
variable {X : Cx} {W : WX} {a : Expr} {ma : ME} {pos p : Pos}
end
end Mir

namespace Mir
open PySem PySem.Spec L2 PyProof.Rows
section
variable {X : Cx} {C : Addr} {bmB : List Value} {B newId initId : String}
end
section
variable {X : Cx} {W : WX} {a : Expr} {ma : ME} {pos : Pos}
end
end Mir

namespace Mir
open PySem L2
theorem Nxt.lay {io io1 : Io} {F F1 H H1 : Hp} {p : Addr} (n : Nxt io F H io1 F1 H1) (hp : H p = none) : Nxt io F H (io1 ++ [some p]) F1 H1 := by
  refine ⟨fun k a e => ?_, n.fr, n.out, fun k a e => ?_, n.stay, n.nf⟩
  · have := n.han k a e
    rw [List.getElem?_append_left (List.getElem?_eq_some_iff.mp this).1]
    exact this
  · rw [List.getElem?_append] at e
    split at e
    · exact n.new k a e
    · have e' : a = p := by
        have hk2 : k - io1.length = 0 := by
          have := (List.getElem?_eq_some_iff.mp e).1
          simp at this
          omega
        rw [hk2] at e
        simpa using e.symm
      rw [e']
      exact .inr hp
section
variable {X : Cx} {W : WX} {tg iter kx vx : Expr} {it : MI} {g : MG} {ke ve : ME} {js : List Nat} {scope : Scope} {own : List (Str × Nat)} {pos : Pos}
end
end Mir

namespace Mir
open PySem L2
def putLotK (k : Key) (kp x : P) : List P → List (List P) → List P × List (List P)
  | kk :: ks, l :: ls => if kOf kk = some k then (kk :: ks, (l ++ [x]) :: ls) else (kk :: (putLotK k kp x ks ls).1, l :: (putLotK k kp x ks ls).2)
  | _, _ => ([kp], [[x]])
def LotsK (K : PySem.W.Frag) (F H : Hp) (Ok : Addr → Prop) (m : Nat) : List P → List (List P) → List (Key × V) → Prop
  | [], [], [] => True
  | kk :: ks, l :: ls, e :: es => kOf kk = some e.1 ∧ (∃ b vs, e.2 = .ref b ∧ H b = some (.lst vs) ∧ RepL K F l vs ∧ Ok b ∧ l.length ≤ m) ∧ LotsK K F H Ok m ks ls es
  | _, _, _ => False
section
variable {K : PySem.W.Frag} {F F' H H' : Hp} {Ok Ok' : Addr → Prop} {m m' : Nat}
theorem LotsK.mono (hF : Same F F') (hH : ∀ b o, Ok b → H b = some o → H' b = some o) (hO : ∀ b o, Ok b → H b = some o → Ok' b) (hm : m ≤ m') : ∀ {ks : List P} {ls : List (List P)} {es : List (Key × V)}, LotsK K F H Ok m ks ls es → LotsK K F' H' Ok' m' ks ls es
  | [], [], [], _ => trivial
  | kk :: ks, l :: ls, e :: es, ⟨h1, ⟨b, vs, e1, h3, h4, h5, h6⟩, h7⟩ => ⟨h1, ⟨b, vs, e1, hH _ _ h5 h3, RepL.mono hF h4, hO _ _ h5 h3, Nat.le_trans h6 hm⟩, LotsK.mono hF hH hO hm h7⟩
  | [], [], _ :: _, h => h.elim
  | [], _ :: _, _, h => h.elim
  | _ :: _, [], _, h => h.elim
  | _ :: _, _ :: _, [], h => h.elim
theorem LotsK.keys : ∀ {ks : List P} {ls : List (List P)} {es : List (Key × V)}, LotsK K F H Ok m ks ls es → RepL K F ks (es.map fun q => kV q.1) ∧ ks.length = es.length
  | [], [], [], _ => ⟨.nil, rfl⟩
  | kk :: ks, l :: ls, e :: es, ⟨h1, _, h7⟩ => by
    obtain ⟨b, c⟩ := LotsK.keys h7
    exact ⟨.cons (kOf_rep h1) b, by rw [List.length_cons, List.length_cons, c]⟩
  | [], [], _ :: _, h => h.elim
  | [], _ :: _, _, h => h.elim
  | _ :: _, [], _, h => h.elim
  | _ :: _, _ :: _, [], h => h.elim
theorem LotsK.beside {q : Addr} {o : HO} : ∀ {ks : List P} {ls : List (List P)} {es : List (Key × V)}, (∀ e ∈ es, e.2 ≠ .ref q) → LotsK K F H Ok m ks ls es → LotsK K F (upd H q o) Ok m ks ls es
  | [], [], [], _, _ => trivial
  | kk :: ks, l :: ls, e :: es, hn, ⟨h1, ⟨b, vs, e1, h3, h4, h5, h6⟩, h7⟩ => ⟨h1, ⟨b, vs, e1, by
      rw [upd_ne (fun z => hn e List.mem_cons_self (by rw [e1, z]))]
      exact h3, h4, h5, h6⟩, LotsK.beside (fun x hx => hn x (List.mem_cons_of_mem _ hx)) h7⟩
  | [], [], _ :: _, _, h => h.elim
  | [], _ :: _, _, _, h => h.elim
  | _ :: _, [], _, _, h => h.elim
  | _ :: _, _ :: _, [], _, h => h.elim
theorem LotsK.put {k : Key} {kp x : P} (hkp : kOf kp = some k) : ∀ {ks : List P} {ls : List (List P)} {es : List (Key × V)}, LotsK K F H Ok m ks ls es → (es.map (·.2)).Nodup →
    (valV es k = none ∧ (es.any fun kv => decide (kv.1 = k)) = false ∧ putLotK k kp x ks ls = (ks ++ [kp], ls ++ [[x]]) ∧ ∀ x, putLotK k kp x (ks ++ [kp]) (ls ++ [[]]) = (ks ++ [kp], ls ++ [[x]])) ∨
    ∃ b vs, valV es k = some (.ref b) ∧ H b = some (.lst vs) ∧ vs.length ≤ m ∧ Ok b ∧ ∀ (F' H' : Hp) (v : V) (Ok' : Addr → Prop), Rep K F' x v → LotsK K F' H' Ok' m ks ls es → H' b = some (.lst vs) → LotsK K F' (upd H' b (.lst (vs ++ [v]))) Ok' (m + 1) (putLotK k kp x ks ls).1 (putLotK k kp x ks ls).2 es
  | [], [], [], _, _ => .inl ⟨rfl, rfl, rfl, fun x => by
      show (if kOf kp = some k then ([kp], ([] ++ [x]) :: []) else _) = _
      rw [if_pos hkp]
      rfl⟩
  | kk :: ks, l :: ls, e :: es, ⟨h1, ⟨b, vs, e1, h3, h4, h5, h6⟩, h7⟩, nd => by
    have nd' := List.nodup_cons.mp nd
    by_cases hk : e.1 = k
    · have hp : putLotK k kp x (kk :: ks) (l :: ls) = (kk :: ks, (l ++ [x]) :: ls) := by
        show (if kOf kk = some k then _ else _) = _
        rw [if_pos (by rw [h1, hk])]
      refine .inr ⟨b, vs, by rw [valV_pos hk, e1], h3, by rw [h4.length]; exact h6, h5, fun F' H' v Ok' hx L hH => ?_⟩
      rw [hp]
      obtain ⟨g1, ⟨c, us, f1, f3, f4, f5, f6⟩, g7⟩ := L
      rw [e1] at f1
      cases f1
      rw [hH] at f3
      cases f3
      refine ⟨g1, ⟨b, vs ++ [v], e1, upd_same, f4.append (.cons hx .nil), f5, by rw [List.length_append]; exact Nat.succ_le_succ f6⟩, ?_⟩
      refine LotsK.beside (fun z hz q => nd'.1 (List.mem_map.mpr ⟨z, hz, q.trans e1.symm⟩)) (LotsK.mono (Same.refl _) (fun _ _ _ z => z) (fun _ _ z _ => z) (Nat.le_succ _) g7)
    · have hp : putLotK k kp x (kk :: ks) (l :: ls) = (kk :: (putLotK k kp x ks ls).1, l :: (putLotK k kp x ks ls).2) := by
        show (if kOf kk = some k then _ else _) = _
        rw [if_neg (by rw [h1]; exact fun z => hk (Option.some.inj z))]
      rcases LotsK.put (k := k) (kp := kp) (x := x) hkp h7 nd'.2 with ⟨g1, g0, g2, g9⟩ | ⟨b', vs', g1, g3, g4, g5, g6⟩
      · refine .inl ⟨by rw [valV_neg hk]; exact g1, ?_, ?_, fun x => ?_⟩
        · rw [List.any_cons, decide_eq_false hk, g0]
          rfl
        · rw [hp, g2]
          rfl
        · show (if kOf kk = some k then _ else (kk :: (putLotK k kp x (ks ++ [kp]) (ls ++ [[]])).1, l :: (putLotK k kp x (ks ++ [kp]) (ls ++ [[]])).2)) = _
          rw [if_neg (by rw [h1]; exact fun z => hk (Option.some.inj z)), g9]
          rfl
      · refine .inr ⟨b', vs', by rw [valV_neg hk]; exact g1, g3, g4, g5, fun F' H' v Ok' hx L hH => ?_⟩
        rw [hp]
        obtain ⟨i1, ⟨c, us, f1, f3, f4, f5, f6⟩, i7⟩ := L
        have hne : c ≠ b' := fun z => by
          unfold valV at g1
          cases q : es.find? (fun kv => decide (kv.1 = k)) with
          | none => rw [q] at g1; cases g1
          | some w =>
            rw [q] at g1
            have g1 : w.2 = .ref b' := Option.some.inj g1
            exact nd'.1 (List.mem_map.mpr ⟨w, List.mem_of_find?_eq_some q, by show w.2 = e.2; rw [g1, f1, z]⟩)
        exact ⟨i1, ⟨c, us, f1, by rw [upd_ne hne]; exact f3, f4, f5, Nat.le_succ_of_le f6⟩, g6 F' H' v Ok' hx i7 hH⟩
  | [], [], _ :: _, h, _ => h.elim
  | [], _ :: _, _, h, _ => h.elim
  | _ :: _, [], _, h, _ => h.elim
  | _ :: _, _ :: _, [], h, _ => h.elim
end
section
variable {K : PySem.W.Frag} {io io1 : Io} {F F1 H H1 : Hp} {S : Sto}
end
def dropA (H : Hp) (p : Addr) : Hp := fun a => if a = p then none else H a
theorem dropA_none {H : Hp} {p a : Addr} (h : dropA H p a = none) : H a = none ∨ a = p := by
  unfold dropA at h
  split at h
  · rename_i q; exact .inr q
  · exact .inl h
theorem dropA_ne {H : Hp} {p a : Addr} (h : a ≠ p) : dropA H p a = H a := if_neg h
theorem Nxt.drop {io : Io} {F H : Hp} {n : Nat} {p : Addr} : Nxt (io.take n) F (dropA H p) (io.take n) F H := by
  refine ⟨fun _ _ h => h, fun _ _ h => h, fun a o h _ => ?_, fun _ _ h => .inl h, fun a h => ?_, fun _ h => .inl h⟩
  · unfold dropA at h
    split at h
    · cases h
    · exact h
  · unfold dropA
    split
    · rfl
    · exact h
theorem Nxt.pick {io io' : Io} {F F' H H' : Hp} {n : Nat} {p : Addr} (hl : io.length = n + 1) (hp : io[n]? = some (some p)) (hl' : io'.length = n) (np : ∀ k : Nat, io'[k]? ≠ some (some p)) (hH : H' p ≠ none) (a : Nxt (io.take n) F (dropA H p) io' F' H') : Nxt io F H (io' ++ [some p]) F' H' := by
  have tk : ∀ (k : Nat) (b : Addr), io[k]? = some (some b) → (k < n ∧ (io.take n)[k]? = some (some b)) ∨ (k = n ∧ b = p) := fun k b e => by
    have hk : k < n + 1 := by rw [← hl]; exact (List.getElem?_eq_some_iff.mp e).1
    by_cases h : k < n
    · exact .inl ⟨h, by rw [List.getElem?_take_of_lt h]; exact e⟩
    · have : k = n := by omega
      subst this
      rw [hp] at e
      cases e
      exact .inr ⟨rfl, rfl⟩
  have tk2 : ∀ (k : Nat) (b : Addr), (io.take n)[k]? = some (some b) → io[k]? = some (some b) := fun k b e => by
    rw [List.getElem?_take] at e
    split at e
    · exact e
    · cases e
  refine ⟨fun k b e => ?_, a.fr, fun b o h hn => ?_, fun k b e => ?_, fun b h => ?_, fun b h => ?_⟩
  · rcases tk k b e with ⟨h1, h2⟩ | ⟨rfl, rfl⟩
    · rw [List.getElem?_append_left (by omega)]
      exact a.han k b h2
    · rw [List.getElem?_append_right (by omega), hl']
      simp
  · have hb : b ≠ p := fun z => hn n (by rw [hp, z])
    exact a.out b o (by rw [dropA_ne hb]; exact h) fun k e => hn k (tk2 k b e)
  · rw [List.getElem?_append] at e
    split at e
    · rcases a.new k b e with z | z
      · exact .inl (tk2 k b z)
      · rcases dropA_none z with y | y
        · exact .inr y
        · subst y; exact absurd e (np k)
    · rename_i hk
      have hk2 : k - io'.length = 0 := by
        have := (List.getElem?_eq_some_iff.mp e).1
        simp at this
        omega
      rw [hk2] at e
      have e' : p = b := by simpa using e
      subst e'
      have : k = n := by omega
      subst this
      exact .inl hp
  · rcases dropA_none (a.stay b h) with z | z
    · exact z
    · subst z; exact absurd h hH
  · rcases a.nf b h with z | z | ⟨k, z⟩
    · exact .inl z
    · rcases dropA_none z with y | y
      · exact .inr (.inl y)
      · subst y; exact .inr (.inr ⟨n, hp⟩)
    · exact .inr (.inr ⟨k, tk2 k b z⟩)
end Mir

namespace Mir
open PySem L2
section
variable {X : Cx} {W : WX} {x y : Str} {i j k0 : Nat} {iter ke ve : Expr} {it : MI} {key val : ME} {p4 p5 p6 p7 p8 p9 p11 p12 p13 : Pos}
end
end Mir

namespace Mir
open PySem L2
section
variable {X : Cx} {W : WX} {elt : Expr} {x y : Str} {i j : Nat} {scope : Scope} {own : List (Str × Nat)} {pos p6 p7 : Pos}
end
end Mir

namespace Mir
open PySem L2
section
variable {K : PySem.W.Frag} {io io1 : Io} {F F1 H H1 : Hp} {S S1 : Sto} {Q : VK} {E : XK}
end
section
variable {P : Program} {w : World} {K : PySem.W.Frag} {mg : Str → Option Value} {base : Heap} {x qual : Str} {params : Arguments} {body : List Stmt} {scope : Scope} {dvs : List V} {kws : List (Str × V)} {f : Addr} {fd : FuncData} {N ps : List Str} {k nl : Nat} {m : MS}
end
end Mir

namespace Mir
open PySem L2
section
variable {X : Cx} {W : WX} {a b c : Expr} {ma mb mc : ME} {pos : Pos}
end
end Mir

namespace Mir
open PySem PySem.Spec PyProof.Rows L2 Builtin Builtin.Str
section
variable {X : Cx} {o n : Expr} {to tn : TE} {j0 j1 : Nat} {c0 c1 c2 apos pos p9 : Pos}
end
end Mir

namespace Mir
open PySem L2
def OST (X : Cx) (W : WX) (st : Stmt) (m : MS) : Prop := ∃ t, PST X st t ∧ ∀ (ρ : En) (S : Sto) (io : Io) (F : Hp) (σ : St) (H : Hp) (D : Ends), Sta X.K io F S H → Env X.K io F ρ σ →
  RS X.K (m ρ S) io F H D W → t D σ H
section
variable {X : Cx} {W : WX} {st : Stmt} {rest : List Stmt} {m m2 : MS} {e c : Expr} {ma : ME} {mt : MT} {pos : Pos}
theorem OST.of (h : OS X W st m) : OST X W st m := by
  obtain ⟨t, p, h⟩ := h
  exact ⟨_, PST.of p, h⟩
theorem OSsT.of (h : OSs X W rest m) : OSsT X W rest m := by
  obtain ⟨t, p, h⟩ := h
  exact ⟨_, PSsT.of p, h⟩
theorem osst_one (h : OST X W st m) : OSsT X W [st] m := by
  obtain ⟨t, p, h⟩ := h
  exact ⟨_, CwR.psst_one p, h⟩
theorem osst_cons (h1 : OST X W st m) (h2 : OSsT X W rest m2) : OSsT X W (st :: rest) (sSeq m m2) := by
  obtain ⟨t, p, h1⟩ := h1
  obtain ⟨u, q, h2⟩ := h2
  refine ⟨_, psst_cons p q, fun ρ S io F σ H D s en h => ?_⟩
  refine h1 ρ S io F σ H _ s en ?_
  have h : RS X.K ((m ρ S).thn m2) io F H D W := h
  cases r : m ρ S with
  | bad => rw [r] at h; exact h
  | ok f S1 =>
    rw [r] at h
    cases f with
    | nx ρ1 => exact fun io1 F1 H1 σ1 n1 s1 en1 => h2 ρ1 S1 io1 F1 σ1 H1 D s1 en1 (RS.step n1 h)
    | rt d => exact h
    | bk ρ1 => exact h
    | ct ρ1 => exact h
    | xc ρ1 c x => exact h
end
section
variable {X : Cx} {W : WX} {o n : Expr} {mo mn : ME} {j0 j1 : Nat} {c0 c1 c2 apos pos p9 : Pos}
end
end Mir

namespace Mir
open PySem L2
section
variable {X : Cx} {W : WX} {o a : Expr} {mo ma : ME} {apos pos : Pos}
end
end Mir

namespace Mir
open PySem L2
section
variable {X : Cx} {i k : Nat} {a b : Expr} {mx mb : Str → XD → ME} {pos : Pos}
theorem otx_eqU (hr : RoomG k X.A) (ha : OEX X i a mx) (hb : OEX X i b mb) : OTX X i (.Compare a [.Eq] [b] pos) (fun c x => tVal (eBin pEq (mx c x) (mb c x))) := fun a0 oe c d pn hz hf => by
  obtain ⟨ta, pa, ha⟩ := ha a0 oe c d pn hz hf
  obtain ⟨tb, pb, hb⟩ := hb a0 oe c d pn hz hf
  refine ⟨tTest (tOp _ ta tb), pt_cmpR (op_eqD (X := X.suite a0 ((a0, oe) :: pn)) hr.r.units) pa pb (nomark _), fun x ρ S io F σ H Q st en sx h => ?_⟩
  have h : RG X.K RepB ((mx c x ρ S).bind fun d S1 => ((mb c x ρ S1).bind fun y S2 => op2 pEq d y S2).bind tst) io F H Q E0 := by
    have h : RG X.K RepB (((mx c x ρ S).bind fun d S1 => (mb c x ρ S1).bind fun y S2 => op2 pEq d y S2).bind tst) io F H Q E0 := h
    cases q : mx c x ρ S with
    | ok d S1 => rw [q] at h; exact h
    | exc c x S1 => rw [q] at h; exact h
    | bad => rw [q] at h; exact h
  refine ha x ρ S io F σ H _ st en sx (RG.bind h fun d S1 io1 F1 H1 v e1 n1 s1 r1 h1 => ?_)
  have h1 : RG X.K RepB ((mb c x ρ S1).bind fun y S2 => (op2 pEq d y S2).bind tst) io1 F1 H1 Q E0 := by
    cases q : mb c x ρ S1 with
    | ok d S1 => rw [q] at h1; exact h1
    | exc c x S1 => rw [q] at h1; exact h1
    | bad => rw [q] at h1; exact h1
  refine hb x ρ S1 io1 F1 σ H1 _ s1 (en.nxt n1) (sx.nxt n1) (RG.bind h1 fun d2 S2 io2 F2 H2 v2 e2 n2 s2 r2 h2 => ?_)
  exact s2.op2 ok_eqD (r1.mono n2.han n2.fr) r2 (RG.bind h2 fun w S3 io3 F3 H3 v3 e3 n3 s3 r3 h3 => tst_go s3 r3 h3)
end
end Mir

namespace Mir
open PySem L2
section
variable {X : Cx} {pins : List (Addr × Obj)} {σ : St} {H : Hp} {s : Shared}
end
def inV (c : Str) (m : MF) (neg : Bool) (d e : Vl) (S : Sto) : Res Vl := if isC c S (nv S e) then boolV neg (m [e, d] S) else .bad
def lenR (r : Res Vl) : Res Vl := r.nox.bind fun d S => match d with
  | .p (.int n) => if 0 ≤ n ∧ n < 2 ^ 63 then .ok (.p (.int n)) S else .bad
  | _ => .bad
def lenV (c : Str) (m : MF) (d : Vl) (S : Sto) : Res Vl := if isC c S (nv S d) then lenR (m [d] S) else .bad
section
variable {X : Cx} {W : WX} {a b e o i v : Expr} {ma mb me mo mi mv : ME} {x : Str} {pos p pos' : Pos} {params : Arguments} {ps : List Str} {k j : Nat} {m : MF}
end
end Mir

namespace Mir
open PySem PySem.Spec L2 PySem.Builtin PySem.Builtin.ObjectAttr
section
variable {prog : Program} {w : World} {A : Around} {E : Value → Shared → Prop} {R : Result → Shared → Prop} {hp : Heap} {g : Array GenState} {d : Drawn} {t : Nat} {os : OsState}
end
section
variable {X : Cx} {pins : List (Addr × Obj)} {σ : St} {H : Hp} {s : Shared} {a C dx : Addr} {f : Str} {y : V} {u : Value} {fs : List (Str × V)} {Q : Unit → Shared → Prop} {E : Value → Shared → Prop} {A : Around}
end
section
variable {X : Cx} {o e : Expr} {to te : TE} {f : Str} {p' pos : Pos}
end
end Mir

namespace Mir
open PySem L2
section
variable {X : Cx} {W : WX} {e kx vx : Expr} {m : ME} {t : MT} {ifs : List Expr} {elts : List Expr} {kk : Nat} {i j : Nat} {scope : Scope} {own : List (Str × Nat)} {tpos apos cpos pos : Pos}
end
end Mir

namespace Mir
open PySem L2
def layT : List Addr → List (Key × V) → Hp → Hp
  | p :: ps, q :: qs, H => layT ps qs (upd H p (.tup [kV q.1, q.2]))
  | _, _, H => H
section
variable {X : Cx} {W : WX} {o : Expr} {mo : ME} {td : TE} {apos mpos p pos : Pos}
end
end Mir

namespace Mir
open PySem L2
theorem upd_size (h : Heap) (d : Addr) (f : Obj → Obj) : (h.update d f).objs.size = h.objs.size := by
  unfold Heap.update
  simp
section
variable {P : Program} {w : World} {A : Around} {E : Value → Shared → Prop} {s : Shared} {d a : Addr} {o : Obj} {es : Array DictEntry} {ep : Nat} {k : Key} {key v : Value} {Q : Unit → Shared → Prop}
theorem put_new (h1 : (mixKind P w).is k key = true) (h2 : s.heap.get? d = some o) (h4 : o.data = .dict es ep) (h5 : KeysOf (mixKind P w) es) (h6 : es.findIdx? (fun e => (mixKind P w).is k e.key) = none) (hz : es.size < sizeLine)
    (hq : ∀ h', h'.get? d = some { cls := o.cls, dict := o.dict, data := .dict (es.push ⟨(mixKind P w).hash k, key, v⟩) (ep + 1), slots := o.slots } → Heap.SameBut d s.heap h' → Q () { s with heap := h' }) : wpAny (model P w) A (dictPut d ((mixKind P w).hash k) key v) Q E s := by
  unfold dictPut
  refine wpAny_bind (wpAny_dictFind_of h1 h2 h4 h5 ?_)
  rw [h6]
  dsimp only
  unfold updateDictKeys
  obtain ⟨c, dd, dat, sl⟩ := o
  have h4 : dat = _ := h4
  subst h4
  repeat (first | with_reducible refine wpAny_loadPart_at h2 ?_ | wp_step)
  have pz : (Obj.mapDictKeys (fun x => x.push { hash := (mixKind P w).hash k, key := key, val := v }) { cls := c, dict := dd, data := Data.dict es ep, slots := sl }).data.pastItsLine = none := by
    show (Data.dict (es.push _) (ep + 1)).pastItsLine = none
    unfold Data.pastItsLine
    simp
    omega
  rw [pz]
  refine wpAny_pure (hq _ ?_ ?_)
  · exact Heap.get?_update_self _ h2 rfl
  · exact ⟨upd_size _ _ _, fun b hb => Heap.get?_update_ne _ _ _ _ hb⟩
theorem put_old {i : Nat} (h1 : (mixKind P w).is k key = true) (h2 : s.heap.get? d = some o) (h4 : o.data = .dict es ep) (h5 : KeysOf (mixKind P w) es) (h6 : es.findIdx? (fun e => (mixKind P w).is k e.key) = some i)
    (hq : ∀ h' ep', h'.get? d = some { cls := o.cls, dict := o.dict, data := .dict (es.modify i fun e => ⟨e.hash, e.key, v⟩) ep', slots := o.slots } → Heap.SameBut d s.heap h' → Q () { s with heap := h' }) : wpAny (model P w) A (dictPut d ((mixKind P w).hash k) key v) Q E s := by
  unfold dictPut
  refine wpAny_bind (wpAny_dictFind_of h1 h2 h4 h5 ?_)
  rw [h6]
  dsimp only
  unfold updateDict
  obtain ⟨c, dd, dat, sl⟩ := o
  have h4 : dat = _ := h4
  subst h4
  repeat (first | with_reducible refine wpAny_loadPart_at h2 ?_ | wp_step)
  have h3 : (s.heap.update d (Obj.mapDict fun x => x.modify i fun e => ⟨e.hash, e.key, v⟩)).get? d = some (Obj.mapDict (fun x => x.modify i fun e => ⟨e.hash, e.key, v⟩) { cls := c, dict := dd, data := Data.dict es ep, slots := sl }) := Heap.get?_update_self _ h2 rfl
  have hs : Heap.SameBut d s.heap (s.heap.update d (Obj.mapDict fun x => x.modify i fun e => ⟨e.hash, e.key, v⟩)) := ⟨upd_size _ _ _, fun b hb => Heap.get?_update_ne _ _ _ _ hb⟩
  generalize s.heap.update d (Obj.mapDict fun x => x.modify i fun e => ⟨e.hash, e.key, v⟩) = h' at h3 hs
  repeat (first | with_reducible refine wpAny_loadPart_at h3 ?_ | wp_step)
  all_goals exact hq h' _ h3 hs
theorem pairs_mem : ∀ {es : List DictEntry} {vs : List (Key × Value)}, Pairs (mixKind P w) es vs → ∀ (j : Nat) (e : DictEntry), es[j]? = some e → ∃ q, vs[j]? = some q ∧ (mixKind P w).is q.1 e.key = true ∧ e.val = q.2
  | [], _, .nil, j, e, h => by simp at h
  | e0 :: es, q0 :: vs, .cons h1 h2 h3, 0, e, h => by
    cases h
    exact ⟨q0, rfl, h1, h2⟩
  | e0 :: es, q0 :: vs, .cons h1 h2 h3, j + 1, e, h => by
    obtain ⟨q, a, b⟩ := pairs_mem h3 j e (by simpa using h)
    exact ⟨q, by simpa using a, b⟩
theorem pairs_mem2 : ∀ {es : List DictEntry} {vs : List (Key × Value)}, Pairs (mixKind P w) es vs → ∀ q ∈ vs, ∃ e ∈ es, (mixKind P w).is q.1 e.key = true
  | [], _, .nil, q, h => by simp at h
  | e0 :: es, q0 :: vs, .cons h1 h2 h3, q, h => by
    rcases List.mem_cons.mp h with rfl | h
    · exact ⟨e0, List.mem_cons_self, h1⟩
    · obtain ⟨e, he, z⟩ := pairs_mem2 h3 q h
      exact ⟨e, List.mem_cons_of_mem _ he, z⟩
theorem pairs_snoc {es : List DictEntry} {vs : List (Key × Value)} {e : DictEntry} {q : Key × Value} (h : Pairs (mixKind P w) es vs) (h1 : (mixKind P w).is q.1 e.key = true) (h2 : e.val = q.2) : Pairs (mixKind P w) (es ++ [e]) (vs ++ [q]) := by
  induction h with
  | nil => exact .cons h1 h2 .nil
  | cons a b _ ih => exact .cons a b ih
theorem pairs_mod : ∀ {es : List DictEntry} {vs : List (Key × Value)} {i : Nat}, Pairs (mixKind P w) es vs → (vs.map (·.1)).Nodup → es.findIdx? (fun e => (mixKind P w).is k e.key) = some i → Pairs (mixKind P w) (es.modify i fun e => ⟨e.hash, e.key, v⟩) (vs.map fun kv => if kv.1 = k then (kv.1, v) else kv)
  | [], _, i, .nil, _, h => by simp at h
  | e0 :: es, q0 :: vs, i, .cons h1 h2 h3, nd, h => by
    obtain ⟨n1, n2⟩ := List.nodup_cons.mp nd
    rw [List.findIdx?_cons] at h
    by_cases hk : (mixKind P w).is k e0.key = true
    · rw [if_pos hk] at h
      cases h
      have e : q0.1 = k := (mixKind P w).inj _ _ _ h1 hk
      have rest : (vs.map fun kv => if kv.1 = k then (kv.1, v) else kv) = vs := by
        conv => rhs; rw [← List.map_id vs]
        refine List.map_congr_left fun q hq => ?_
        rw [if_neg (fun z => n1 (List.mem_map.mpr ⟨q, hq, by rw [z]; exact e.symm⟩))]
        rfl
      rw [List.map_cons, rest, if_pos e]
      exact .cons h1 rfl h3
    · rw [if_neg hk] at h
      cases hj : es.findIdx? (fun e => (mixKind P w).is k e.key) with
      | none => rw [hj] at h; cases h
      | some j =>
        rw [hj] at h
        cases h
        have ne : q0.1 ≠ k := fun z => hk (by rw [← z]; exact h1)
        rw [List.map_cons, if_neg ne]
        exact .cons h1 h2 (pairs_mod h3 n2 hj)
theorem put_ok {kvs : List (Key × Value)} (h1 : (mixKind P w).is k key = true) (h : s.heap.DictOf (mixKind P w) d kvs) (hz : kvs.length < sizeLine)
    (hq : ∀ h', h'.DictOf (mixKind P w) d (stored kvs k v) → Heap.SameBut d s.heap h' → Q () { s with heap := h' }) : wpAny (model P w) A (dictPut d ((mixKind P w).hash k) key v) Q E s := by
  obtain ⟨o, es, ep, ho, hx, hd, hk, hp, nd⟩ := h
  have hl : es.size = kvs.length := by
    have : ∀ {es : List DictEntry} {vs : List (Key × Value)}, Pairs (mixKind P w) es vs → es.length = vs.length := fun {es vs} h => by
      induction h with
      | nil => rfl
      | cons _ _ _ ih => simp [ih]
    rw [← Array.length_toList]
    exact this hp
  have hkey : ∀ q ∈ kvs, q.1 = k ↔ ∃ e ∈ es.toList, (mixKind P w).is q.1 e.key = true ∧ q.1 = k := fun q hq' => by
    constructor
    · intro z
      obtain ⟨e, he, h2⟩ := pairs_mem2 hp q hq'
      exact ⟨e, he, h2, z⟩
    · exact fun ⟨_, _, _, z⟩ => z
  cases hf : es.findIdx? (fun e => (mixKind P w).is k e.key) with
  | none =>
    have no : ∀ e ∈ es, (mixKind P w).is k e.key = false := fun e he => by
      have := Array.findIdx?_eq_none_iff.mp hf e he
      simpa using this
    have nk : ∀ q ∈ kvs, q.1 ≠ k := fun q hq' z => by
      obtain ⟨e, he, h2⟩ := pairs_mem2 hp q hq'
      rw [z, no e (Array.mem_toList_iff.mp he)] at h2
      cases h2
    have est : stored kvs k v = kvs ++ [(k, v)] := by
      unfold stored
      rw [if_neg]
      rw [List.any_eq_true]
      rintro ⟨q, hq1, hq2⟩
      exact nk q hq1 (of_decide_eq_true hq2)
    refine put_new h1 ho hd hk hf (by rw [hl]; exact hz) fun h' g1 g2 => hq h' ?_ g2
    rw [est]
    refine ⟨_, _, _, g1, hx, rfl, fun e he => ?_, ?_, ?_⟩
    · rcases Array.mem_push.mp he with he | rfl
      · exact hk e he
      · exact ⟨k, h1, rfl⟩
    · rw [Array.toList_push]
      exact pairs_snoc hp h1 rfl
    · rw [List.map_append, List.nodup_append]
      refine ⟨nd, by simp, fun x hx' y hy => ?_⟩
      have hy : y = k := by simpa using hy
      obtain ⟨q, hq1, rfl⟩ := List.mem_map.mp hx'
      rw [hy]
      exact nk q hq1
  | some i =>
    have hf2 : es.toList.findIdx? (fun e => (mixKind P w).is k e.key) = some i := by
      rw [← hf]
      exact List.findIdx?_toArray _ _ ▸ (by simp)
    have any : (kvs.any fun kv => decide (kv.1 = k)) = true := by
      obtain ⟨hi, hi2, _⟩ := List.findIdx?_eq_some_iff_getElem.mp hf2
      obtain ⟨q, hq1, hq2, _⟩ := pairs_mem hp i _ (List.getElem?_eq_getElem hi)
      rw [List.any_eq_true]
      exact ⟨q, List.mem_of_getElem? hq1, decide_eq_true ((mixKind P w).inj _ _ _ hq2 (by simpa using hi2))⟩
    refine put_old h1 ho hd hk hf fun h' ep' g1 g2 => hq h' ?_ g2
    refine ⟨_, _, _, g1, hx, rfl, fun e he => ?_, ?_, ?_⟩
    · have he := Array.mem_toList_iff.mpr he
      rw [Array.toList_modify] at he
      obtain ⟨j, hj⟩ := List.mem_iff_getElem?.mp he
      rw [List.getElem?_modify] at hj
      split at hj
      · cases hz2 : es.toList[j]? with
        | none => rw [hz2] at hj; cases hj
        | some e1 =>
          rw [hz2] at hj
          cases hj
          obtain ⟨k1, r1, r2⟩ := hk e1 (Array.mem_toList_iff.mp (List.mem_of_getElem? hz2))
          exact ⟨k1, r1, r2⟩
      · exact hk e (Array.mem_toList_iff.mp (List.mem_of_getElem? (by simpa using hj)))
    · rw [Array.toList_modify]
      have := pairs_mod (v := v) hp nd hf2
      unfold stored
      rw [if_pos any]
      exact this
    · unfold stored
      rw [if_pos any, List.map_map]
      have : (kvs.map ((·.1) ∘ fun kv => if kv.1 = k then (kv.1, v) else kv)) = kvs.map (·.1) := by
        refine List.map_congr_left fun q _ => ?_
        show (if q.1 = k then (q.1, v) else q).1 = q.1
        split <;> rfl
      rw [this]
      exact nd
theorem entries_ok {M : Model} {Q : Array DictEntry → Shared → Prop} (h : s.heap.get? d = some o) (hd : o.data = .dict es ep) (q : Q es s) : wpAny M A (dictEntries d) Q E s := by
  unfold dictEntries
  refine wpAny_bind (wpAny_loadPart_at h ?_)
  rw [hd]
  exact wpAny_pure q
theorem epoch_ok {M : Model} {Q : Nat → Shared → Prop} (h : s.heap.get? d = some o) (hd : o.data = .dict es ep) (q : Q ep s) : wpAny M A (dictEpoch d) Q E s := by
  unfold dictEpoch
  refine wpAny_bind (wpAny_loadPart_at h ?_)
  rw [hd]
  exact wpAny_pure q
theorem stored_len (kvs : List (Key × Value)) (k : Key) (v : Value) : (stored kvs k v).length ≤ kvs.length + 1 := by
  unfold stored
  split
  · rw [List.length_map]; omega
  · rw [List.length_append]; exact Nat.le_refl _
theorem merged_len : ∀ (more kvs : List (Key × Value)), (merged kvs more).length ≤ kvs.length + more.length
  | [], kvs => Nat.le_refl _
  | q :: more, kvs => by
    show (merged (stored kvs q.1 q.2) more).length ≤ _
    have h1 := merged_len more (stored kvs q.1 q.2)
    have h2 := stored_len kvs q.1 q.2
    rw [List.length_cons]
    omega
theorem merged_snoc (kvs more : List (Key × Value)) (q : Key × Value) : merged kvs (more ++ [q]) = stored (merged kvs more) q.1 q.2 := by
  unfold merged
  rw [List.foldl_append]
  rfl
theorem merge_ok {kvs more : List (Key × Value)} (hd : s.heap.DictOf (mixKind P w) d kvs) (ha : s.heap.DictOf (mixKind P w) a more) (hne : d ≠ a) (hs : (a == sysModules) = false) (hz : kvs.length + more.length ≤ sizeLine)
    (hq : ∀ h', h'.DictOf (mixKind P w) d (merged kvs more) → Heap.SameBut d s.heap h' → Q () { s with heap := h' }) : wpAny (model P w) A (mergeMapping d (.ref a) false) Q E s := by
  obtain ⟨o, es, ep, ho, hx, hdat, hk, hp, nd⟩ := id ha
  have dslot : typeLookup (.type "dict") ("__iter__" : Str) = pure (some (.builtin "dict.__iter__")) := PySem.F.slot_dict_iter.lookup
  obtain ⟨od, ed, epd, hod, hxd, hdatd, hkd, hpd, ndd⟩ := id hd
  have hl : es.size = more.length := by
    have : ∀ {es : List DictEntry} {vs : List (Key × Value)}, Pairs (mixKind P w) es vs → es.length = vs.length := fun {es vs} h => by
      induction h with
      | nil => rfl
      | cons _ _ _ ih => simp [ih]
    rw [← Array.length_toList]
    exact this hp
  unfold mergeMapping
  refine wpAny_bind (wpAny_isInstance (T := "dict") (b := true) ⟨o, ho, hx.1⟩ (by with_unfolding_all rfl) ?_)
  dsimp only
  rw [if_pos rfl]
  refine wpAny_bind (wpAny_specialOf (T := "dict") ⟨o, ho, hx.1⟩ dslot ?_)
  refine wpAny_bind (wpAny_pure ?_)
  rw [show (some (Value.builtin "dict.__iter__") == some (Value.builtin "dict.__iter__")) = true by decide]
  dsimp only
  rw [hs, if_neg (by simp)]
  refine wpAny_bind (entries_ok hod hdatd ?_)
  have loop1 : ∀ (f : DictEntry → PUnit → Sem (ForInStep PUnit)) (R : PUnit → Shared → Prop), (∀ (e : DictEntry) (s' : Shared) (R' : ForInStep PUnit → Shared → Prop), (∀ b, e.key ≠ .ref b) → R' (.yield ⟨⟩) s' → wpAny (model P w) A (f e ⟨⟩) R' E s') → R ⟨⟩ s → wpAny (model P w) A (forIn es PUnit.unit f) R E s := fun f R hf hR => by
    rw [← Array.forIn_toList]
    refine wpAny_forIn_list f (fun rest _ s' => s' = s ∧ ∀ e ∈ rest, e ∈ es.toList) R (fun x rest b s' h => ?_) (fun b s' h => by rw [h.1]; exact hR) _ _ ⟨rfl, fun e he => he⟩
    refine hf x s' _ (fun b' z => ?_) ⟨h.1, fun e he => h.2 e (List.mem_cons_of_mem _ he)⟩
    obtain ⟨k, k1, _⟩ := hk x (Array.mem_toList_iff.mp (h.2 x List.mem_cons_self))
    have k1 : keyIs k x.key = true := k1
    rw [z] at k1
    cases k with
    | inl _ => cases k1
    | inr _ => cases k1
  have pe := pairs_mem hp
  have loop2 : ∀ (f : Nat → PUnit → Sem (ForInStep PUnit)), (∀ (i : Nat) (s' : Shared) (e : DictEntry) (R' : ForInStep PUnit → Shared → Prop), s'.heap.get? a = some o → es[i]? = some e → wpAny (model P w) A (dictPut d e.hash e.key e.val) (fun _ s2 => s2.heap.get? a = some o ∧ R' (.yield ⟨⟩) s2) E s' → wpAny (model P w) A (f i ⟨⟩) R' E s') → wpAny (model P w) A (do forIn (List.range es.size) PUnit.unit f; pure ()) Q E s := fun f hf => by
    refine wpAny_bind (wpAny_forIn_list f (fun rest _ s' => ∃ i h', rest = (List.range es.size).drop i ∧ i ≤ es.size ∧ s' = { s with heap := h' } ∧ h'.DictOf (mixKind P w) d (merged kvs (more.take i)) ∧ Heap.SameBut d s.heap h') _ (fun x rest b s' h => ?_) (fun b s' h => ?_) _ _ ⟨0, s.heap, rfl, Nat.zero_le _, rfl, hd, rfl, fun _ _ => rfl⟩)
    · obtain ⟨i, h', e1, e2, rfl, e4, e5⟩ := h
      have hi : i < es.size := by
        rcases Nat.lt_or_ge i es.size with z | z
        · exact z
        · rw [List.drop_eq_nil_of_le (by rw [List.length_range]; exact z)] at e1
          cases e1
      rw [List.drop_eq_getElem_cons (by rw [List.length_range]; exact hi), List.getElem_range] at e1
      obtain ⟨rfl, rfl⟩ := List.cons.inj e1
      have ga : h'.get? a = some o := by rw [e5.2 a (Ne.symm hne)]; exact ho
      obtain ⟨q, q1, q2, q3⟩ := pairs_mem hp x es[x] (by simp [hi])
      obtain ⟨k', k1, k2⟩ := hk es[x] (Array.getElem_mem hi)
      have ek : k' = q.1 := (mixKind P w).inj _ _ _ k1 q2
      refine hf x { s with heap := h' } es[x] _ ga (by simp [hi]) ?_
      rw [k2, ek, q3]
      have hl3 : (merged kvs (more.take x)).length < sizeLine := by
        have h1 := merged_len (more.take x) kvs
        rw [List.length_take] at h1
        omega
      refine put_ok (s := { s with heap := h' }) q2 e4 hl3 fun h2 g1 g2 => ⟨by rw [g2.2 a (Ne.symm hne)]; exact ga, x + 1, h2, rfl, hi, rfl, ?_, ⟨g2.1.trans e5.1, fun b hb => (g2.2 b hb).trans (e5.2 b hb)⟩⟩
      rw [List.take_add_one, q1]
      show h2.DictOf (mixKind P w) d (merged kvs (more.take x ++ [q]))
      rw [merged_snoc]
      exact g1
    · obtain ⟨i, h', e1, e2, rfl, e4, e5⟩ := h
      have hi : es.size ≤ i := by
        have := congrArg List.length e1
        rw [List.length_drop, List.length_range] at this
        simp at this
        omega
      rw [List.take_of_length_le (by omega)] at e4
      exact wpAny_pure (hq h' e4 e5)
  have turn : ∀ (f : Nat → PUnit → Sem (ForInStep PUnit)), (f = fun i __s => do
      let __do_lift ← dictEntries a
      match __do_lift[i]? with
        | some e => do
          holding [e.key, e.val] (dictPut d e.hash e.key e.val)
          let __do_lift ← dictEpoch a
          if (__do_lift != ep) = true then do
              unsupported "dict.changed-during-merge"
              pure (ForInStep.yield PUnit.unit)
            else pure (ForInStep.yield PUnit.unit)
        | x => do
          unsupported "dict.changed-during-merge"
          pure (ForInStep.yield PUnit.unit)) → wpAny (model P w) A (do forIn (List.range es.size) PUnit.unit f; pure ()) Q E s := fun f ef => loop2 f fun i s' e R' h1 h2 h3 => by
    subst ef
    refine wpAny_bind (entries_ok h1 hdat ?_)
    rw [h2]
    refine wpAny_bind (wpAny_holding (wpAny_mono h3 (fun _ s2 ⟨g1, g2⟩ => ?_) fun _ _ z => z))
    refine wpAny_bind (epoch_ok g1 hdat ?_)
    rw [if_neg (by simp)]
    exact wpAny_pure g2
  cases hem : ed.isEmpty
  · rw [if_neg (by simp)]
    refine wpAny_bind (entries_ok ho hdat (wpAny_bind (epoch_ok ho hdat ?_)))
    exact turn _ rfl
  · rw [if_pos rfl]
    refine wpAny_bind (entries_ok ho hdat (wpAny_bind (loop1 _ _ (fun e s' R' hn hR => ?_) ?_)))
    · cases hkey : e.key with
      | ref b => exact absurd hkey (hn b)
      | _ => exact wpAny_pure hR
    refine wpAny_bind (entries_ok ho hdat (wpAny_bind (epoch_ok ho hdat ?_)))
    exact turn _ rfl
end
end Mir

namespace Mir
open PySem L2
section
variable {X : Cx} {pins : List (Addr × Obj)} {σ : St} {H : Hp} {s : Shared} {d : Addr} {kvs kvs' : List (Key × V)} {vs' : List (Key × Value)}
end
section
variable {X : Cx} {pins : List (Addr × Obj)} {σ : St} {H : Hp} {s : Shared}
end
section
variable {X : Cx} {de ke ve : Expr} {td tk tv : TE} {pos : Pos}
end
end Mir

namespace Mir
open PySem L2
section
variable {K : PySem.W.Frag} {io io' : Io} {F F' H H' : Hp} {D : Addr} {o : HO}
end
section
variable {X : Cx} {W : WX} {de ke ve a o i : Expr} {m mk mv ma mo mi : ME} {pos : Pos} {k : Nat}
end
end Mir

namespace Mir
open PySem L2
section
variable {K : PySem.W.Frag} {io : Io} {F H : Hp} {S : Sto}
end
section
variable {X : Cx} {W : WX} {a b i o e : Expr} {ma mb mi mo m : ME} {pos p apos mpos : Pos} {k : Nat}
end
end Mir

namespace Mir
open PySem L2
section
variable {X : Cx} {W : WX} {e kx vx : Expr} {m : ME} {t : MT} {ifs : List Expr} {elts : List Expr} {kk : Nat} {i j : Nat} {scope : Scope} {own : List (Str × Nat)} {tpos apos cpos pos : Pos}
end
end Mir
namespace Mir
open PySem L2
end Mir

namespace Mir
open PySem L2
section
variable {X : Cx} {W : WX} {o : Expr} {mo : ME} {td : TE} {apos mpos p pos : Pos}
end
section
variable {X : Cx} {W : WX} {a : Expr} {ma : ME} {pos p : Pos}
end
section
variable {X : Cx} {W : WX} {tg e : Expr} {m : ME}
end
section
variable {X : Cx} {W : WX} {a b : Expr} {ma mb : ME} {pos : Pos}
end
end Mir

namespace Mir
open PySem L2
section
variable {X : Cx} {W : WX} {pos : Pos} {es : List Expr} {mas : MA}
end
end Mir

namespace Mir
open PySem L2
section
variable {K : PySem.W.Frag}
end
section
variable {X : Cx} {W : WX} {o a b : Expr} {mo ma mb : ME} {apos pos : Pos}
end
end Mir

namespace Mir
open PySem L2
section
variable {K : PySem.W.Frag} {io : Io} {F : Hp} {S : Sto} {H : Hp}
end
section
variable {X : Cx} {W : WX} {x : Str} {p pos : Pos} {params : Arguments} {ps : List Str} {k j : Nat} {m : MF} {mo : ME}
end
end Mir

namespace Mir
open PySem PySem.Spec PyProof.Rows L2
section
variable {M : Model} {A : Around} {E : Value → Shared → Prop} {s : Shared} {env : PySem.Env}
end
section
variable {M : Model} {A : Around} {E : Value → Shared → Prop} {s : Shared} {Z : Obj → Prop} {base : Heap} {env ce : PySem.Env} {outer l : List PySem.Env} {L e : Addr}
end
end Mir

namespace Mir
open PySem PySem.Spec PyProof.Rows L2
section
variable {X : Cx} {pins : List (Addr × Obj)} {σ : L2.St} {W : WX}
end
end Mir

namespace Mir
open PySem L2
section
variable {K : PySem.W.Frag} {Q : VK} {E : XK}
end
section
variable {X : Cx} {W : WX} {elt tg iter c : Expr} {scope : Scope} {own : List (Str × Nat)} {pos : Pos} {it : MI} {js : List Nat} {g : MG} {t : MT} {e : ME}
end
end Mir

namespace Rw
open PySem PySem.Spec PyProof.Rows L2 Mir
abbrev CT : Type := Str × Nat × Pos
def litE (c : CT) : Expr := .Constant (.str c.1) c.2.1 c.2.2
def litV : List Str → Nat → List Value
  | [], _ => []
  | y :: ys, t => .str y t :: litV ys (t + 1)
theorem litV_length : ∀ (ys : List Str) (t : Nat), (litV ys t).length = ys.length
  | [], _ => rfl
  | y :: ys, t => by
    show (litV ys (t + 1)).length + 1 = _
    rw [litV_length ys]
    rfl
theorem litV_get : ∀ (ys : List Str) (t i : Nat), (litV ys t)[i]? = ys[i]?.map fun y => Value.str y (t + i)
  | [], _, _ => by simp [litV]
  | y :: ys, t, 0 => by simp [litV]
  | y :: ys, t, i + 1 => by
    show (litV ys (t + 1))[i]? = _
    rw [litV_get ys]
    rw [show t + 1 + i = t + (i + 1) by omega]
    rfl
theorem mem1 {A : Type} {b c : A} (h : b ∈ [c]) : b = c := List.mem_singleton.mp h
section
variable {X : Cx}
theorem spl_lits {pos : Pos} : ∀ (cs : List CT) {s : Shared} {Q : List Value → Shared → Prop} {E : Value → Shared → Prop},
    (∀ c ∈ cs, starEach [litE c] X.env = [(false, eval (litE c) X.env)]) → Q (litV (cs.map (·.1)) s.toks) { s with toks := s.toks + cs.length } →
    wpAny (model X.prog X.w) X.A (spliced (backTo pos (starEach (cs.map litE) X.env))) Q E s
  | [], s, Q, E, _, h => Calls.spliced_nil h
  | c :: cs, s, Q, E, hs, h => by
    show wpAny _ _ (spliced ((false, eval (litE c) X.env) :: backTo pos (starEach (cs.map litE) X.env))) _ _ s
    refine Calls.spliced_cons (Calls.Constant_str ?_)
    refine spl_lits cs (s := { s with toks := s.toks + 1 }) (fun d hd => hs d (List.mem_cons_of_mem _ hd)) ?_
    show Q (litV (c.1 :: cs.map (·.1)) s.toks) { s with toks := s.toks + 1 + cs.length }
    rw [show s.toks + 1 + cs.length = s.toks + (c :: cs).length by rw [List.length_cons]; omega]
    exact h
def litT (z : Str) (ia ik : Nat) : List Str → L2.St → (L2.St → Prop) → Prop
  | [], σ, Q => Q σ
  | y :: ys, σ, Q => ∃ x, σ[ik]? = some (some (.str x)) ∧ (y == z) = false ∧ x.length + (x.length + 1) * z.length ≤ 16777216 ∧ litT z ia ik ys ((σ.set ia (some (.str y))).set ik (some (.str (Txt.replace x y z)))) Q
theorem pst_forLit {cs : List CT} {z : Str} {ia ik j : Nat} {a k : Str} {p1 p3 p4 p6 c1 lp apos cpos pos fpos : Pos} (hp : PassesOwn (model X.prog X.w) X.A X.env X.xe) (hc : X.calm = true) (hN : X.N.Nodup) (nak : ia ≠ ik) (ha : X.N[ia]? = some a) (hk : X.N[ik]? = some k)
    (la : X.env.kindOf a = some .local) (lk : X.env.kindOf k = some .local) (hcs : cs.length ≤ 1000) (hs0 : ∀ c ∈ cs, starEach [litE c] X.env = [(false, eval (litE c) X.env)])
    (da : (a == ("__debug__" : Str)) = false := by decide) (dk : (k == ("__debug__" : Str)) = false := by decide) (dk2 : (k == ("__classdict__" : Str)) = false := by decide)
    (hst : starEach [.Name a p4, .Constant (.str z) j c1] X.env = [(false, eval (.Name a p4) X.env), (false, eval (.Constant (.str z) j c1) X.env)] := by rfl)
    (hbase : attributeBase (.Name k p3) "replace" X.env (eval (.Name k p3) X.env) = eval (.Name k p3) X.env := by rfl) (hline : (apos.endLine == cpos.line) = true := by rfl)
    (hs : swapsWith (.Call (.Attribute (.Name k p3) "replace" apos) [.Name a p4, .Constant (.str z) j c1] [] cpos) (some (.Name k p6)) pos.line X.env = pure false := by rfl) 
    (hf : ∀ x, foldedSetIterable (.List (cs.map litE) lp) X.env x = pure x := by intro _; rfl) :
    PST X (.For (.Name a p1) (.List (cs.map litE) lp) [.Assign [.Name k p6] (.Call (.Attribute (.Name k p3) "replace" apos) [.Name a p4, .Constant (.str z) j c1] [] cpos) pos] [] fpos)
      (fun D σ H => litT z ia ik (cs.map (·.1)) σ fun σ' => D.nx σ' H) := by
  intro pins s σ H D h0 I h
  let ys := cs.map (·.1)
  have hlen : (litV ys s.toks).length = cs.length := by rw [litV_length, List.length_map]
  refine wpAny_For (wpAny_List_spliced (spl_lits cs hs0 ⟨by rw [hlen]; exact Nat.le_trans hcs (by decide), ?_⟩)) hf
  -- the list
  let L : Addr := s.heap.objs.size
  let oL : Obj := { cls := .type "list", data := .seq (litV ys s.toks).toArray }
  let s1 : Shared := { s with heap := s.heap.push oL, toks := s.toks + cs.length }
  have I1 : Inv X pins σ H s1 := I.kept (t' := s.toks + cs.length) fun b o e => Heap.get?_push_of_some _ e
  have gL : s1.heap.get? L = some oL := Heap.get?_push_size _ rfl
  have fL : FpOk X pins H L := I.fpOk (Nat.le_refl _) (I.hok.fresh (Nat.le_refl _))
  have I1p : Inv X (pins ++ [(L, oL)]) σ H s1 := by
    have e := I1.pinned (fp := [L]) (fun b hb => by rw [mem1 hb]; exact fL) (fun b hb => by rw [mem1 hb]; exact ⟨oL, gL, fun v z => by cases z⟩)
    have e2 : pinsAt [L] s1.heap = [(L, oL)] := by
      show ([L].filterMap fun b => (s1.heap.get? b).map fun o => (b, o)) = _
      simp [gL]
    rw [e2] at e
    exact e
  have isL : ∀ {h' : Heap}, h'.get? L = some oL → h'.IsList L (litV ys s.toks).toArray := fun e => ⟨oL, e, rfl, 0, rfl⟩
  refine wpAny_pyIter_list (isL gL) ?_
  let it : Addr := s1.heap.objs.size
  have I2 : Inv X (pins ++ [(L, oL)]) σ H { s1 with heap := s1.heap.push { cls := .type "list_iterator", data := .fields #[.ref L, .int 0 0] } } := I1p.kept (t' := s1.toks) fun b o e => Heap.get?_push_of_some _ e
  have fit : FpOk X (pins ++ [(L, oL)]) H it := I1p.fpOk (Nat.le_refl _) (I1p.hok.fresh (Nat.le_refl _))
  refine codeAny_forLoop_any (fun n s' => ∃ i σ', n = cs.length - i ∧ i ≤ cs.length ∧ s.toks + cs.length ≤ s'.toks ∧ Inv X (pins ++ [(L, oL)]) σ' H s' ∧ s'.heap.IsListIter it L i ∧ litT z ia ik (ys.drop i) σ' fun σ' => D.nx σ' H) ?_ cs.length ⟨0, σ, by omega, by omega, Nat.le_refl _, I2, ⟨_, Heap.get?_push_size _ rfl, rfl, rfl⟩, h⟩
  rintro n s3 ⟨i, σ3, rfl, hi, ht3, I3, st3, w3⟩
  have g3 : s3.heap.get? L = some oL := (I3.pin (L, oL) (by simp)).1
  obtain ⟨f0, f1, f2, f3, f4, f5⟩ := id fit
  cases hx : ys[i]? with
  | none =>
    have hd : ys.drop i = [] := List.drop_eq_nil_of_le (List.getElem?_eq_none_iff.mp hx)
    rw [hd] at w3
    refine wpAny_passesOwn hp (wpAny_pyNext_list_end (I3.ok.hd hc) st3 (isL g3) (by rw [List.getElem?_toArray, litV_get, hx]; rfl) fun h' eb => ?_)
    exact wpAny_execs_nil ⟨σ3, H, (I3.turned (t' := s3.toks) (fun b o hb e => eb b o hb e) f0 f1 f3 f4 f5).unpinned, w3⟩
  | some y =>
    have hlt : i < ys.length := (List.getElem?_eq_some_iff.mp hx).1
    have hlt' : i < cs.length := by rw [List.length_map] at hlt; exact hlt
    have hd : ys.drop i = y :: ys.drop (i + 1) := by
      rw [List.drop_eq_getElem_cons hlt]
      congr 1
      exact (List.getElem?_eq_some_iff.mp hx).2
    rw [hd] at w3
    obtain ⟨x, hσ3, hyz, h16, w3⟩ := w3
    refine wpAny_passesOwn hp (wpAny_pyNext_list_item st3 (isL g3) (x := .str y (s.toks + i)) (by rw [List.getElem?_toArray, litV_get, hx]; rfl) fun h' st' sb => ?_)
    have I4 : Inv X (pins ++ [(L, oL)]) σ3 H { s3 with heap := h' } := I3.turned (t' := s3.toks) (fun b o hb e => (sb.2 b hb).trans e) f0 f1 f3 f4 f5
    obtain ⟨o, e, c, d⟩ := id st'
    refine wpAny_passesOwn hp (go_of (s := { s3 with heap := h' }) e c d (by decide) ?_)
    have fit4 : FpOk X (pins ++ [(L, oL)]) H it := fit
    have I4p : Inv X ((pins ++ [(L, oL)]) ++ [(it, o)]) σ3 H { s3 with heap := h' } := by
      have e1 := I4.pinned (fp := [it]) (fun b hb => by rw [mem1 hb]; exact fit4) (fun b hb => by rw [mem1 hb]; exact ⟨o, e, fun v z => by rw [d] at z; cases z⟩)
      have e2 : pinsAt [it] h' = [(it, o)] := by
        show ([it].filterMap fun b => (h'.get? b).map fun o => (b, o)) = _
        rw [List.filterMap_cons_some (b := (it, o)) (by rw [e]; rfl), List.filterMap_nil]
      rw [e2] at e1
      exact e1
    have t4 : s.toks + cs.length ≤ ({ s3 with heap := h' } : Shared).toks := ht3
    refine wpAny_passesOwn hp (PySem.wpAny_with_toks t4 (wpAny_assign_Name (store_raw I4p hN ha la (v := .str y) ⟨_, rfl⟩ fun s5 _ I5 r5 _ t5 => ?_)))
    refine wpAny_passesOwn hp (PySem.wpAny_with_toks t5 (wpAny_execs_cons (wpAny_Assign_Name ?_ hs)))
    have hσ : (σ3.set ia (some (V.str y)))[ik]? = some (some (.str x)) := by rw [List.getElem?_set_ne nak, hσ3]
    refine PySem.Call_method2 hbase hst hline (raw_name hk (.inl lk) I5 hσ (fun v rv => ?_) dk dk2)
    obtain ⟨tx, rfl⟩ := rv
    refine ⟨"str", _, PySem.F.plainAttrs_str, PySem.F.slot_str_replace, PySem.F.type_str_replace, typeIs_str _ _ _, (fun _ e => nomatch e), Calls.callWith_builtin rfl (Calls.evalArgs_plain (Calls.spliced_cons ?_))⟩
    refine load_raw I5 la r5 ?_ da
    refine Calls.spliced_cons (Calls.Constant_str (Calls.spliced_nil ?_))
    refine PySem.SC.replace (by show s.toks + i ≠ 0; omega) (by show s5.toks ≠ 0; omega) (by show s.toks + i ≠ s5.toks; omega) hyz h16 fun t' k' => ?_
    refine store_raw (I5.tok k') hN hk lk (v := .str (Txt.replace x y z)) ⟨t', rfl⟩ fun s6 _ I6 _ _ => ?_
    refine wpAny_execs_nil fun t6 => ?_
    refine ⟨cs.length - (i + 1), by omega, i + 1, _, rfl, hlt', t6, I6.unpinned, ?_, w3⟩
    exact ⟨o, (I6.pin (it, o) (by simp)).1, c, d⟩
end
end Rw

namespace Mir
open PySem PySem.Spec PyProof.Rows L2 Rw
def csOf : List Expr → List CT
  | .Constant (.str y) j p :: r => (y, j, p) :: csOf r
  | _ => []
def litGo (z : List Nat) (ia ik : Nat) : List (List Nat) → En → Option En
  | [], ρ => some ρ
  | y :: ys, ρ => (match ρ[ik]? with
    | some (some (.p (.str x))) => if 1 ≤ y.length ∧ x.length + (x.length + 1) * z.length ≤ 16777216 then litGo z ia ik ys ((ρ.set ia (some (.p (.str y)))).set ik (some (.p (.str (StrLaws.replL y z x))))) else none
    | _ => none)
def sForLit (ys : List (List Nat)) (z : List Nat) (ia ik : Nat) : MS := fun ρ S => match litGo z ia ik ys ρ with
  | some ρ2 => .ok (.nx ρ2) S
  | none => .bad
theorem lit_of {K : PySem.W.Frag} {io : Io} {F : Hp} {z : List Nat} {ia ik : Nat} {Q : L2.St → Prop} {ρ2 : En} : ∀ {ys : List (List Nat)} {ρ : En} {σ : L2.St}, Env K io F ρ σ → litGo z ia ik ys ρ = some ρ2 → (∀ y ∈ ys, (strOf y == strOf z) = false) → (∀ σ2, Env K io F ρ2 σ2 → Q σ2) → litT (strOf z) ia ik (ys.map strOf) σ Q
  | [], ρ, σ, en, h, _, hq => by
    cases h
    exact hq σ en
  | y :: ys, ρ, σ, en, h, hne, hq => by
    unfold litGo at h
    split at h
    · rename_i x hk
      by_cases hz : 1 ≤ y.length ∧ x.length + (x.length + 1) * z.length ≤ 16777216
      · rw [if_pos hz] at h
        obtain ⟨vk, hσk, rk⟩ := en.get hk
        have rk : vk = .str (strOf x) := rk
        subst rk
        refine ⟨strOf x, hσk, hne y (by simp), by rw [strOf_length, strOf_length]; exact hz.2, ?_⟩
        rw [repl_strOf hz.1]
        exact lit_of ((en.set (d := .p (.str y)) (v := .str (strOf y)) rfl ia).set (d := .p (.str (StrLaws.replL y z x))) (v := .str (strOf (StrLaws.replL y z x))) rfl ik) h (fun y' hy => hne y' (List.mem_cons_of_mem _ hy)) hq
      · rw [if_neg hz] at h; cases h
    · cases h
section
variable {X : Cx} {W : WX} {es : List Expr} {ys : List (List Nat)} {z : List Nat} {z' : Str} {a k : Str} {ia ik j : Nat} {p1 p3 p4 p6 c1 lp apos cpos pos fpos : Pos}
theorem ost_forLit (hp : PassesOwn (model X.prog X.w) X.A X.env X.xe) (hc : X.calm = true) (hN : X.N.Nodup) (nak : ia ≠ ik := by decide) (ha : X.N[ia]? = some a := by rfl) (hk : X.N[ik]? = some k := by rfl)
    (la : X.env.kindOf a = some .local := by rfl) (lk : X.env.kindOf k = some .local := by rfl) (hes : (csOf es).map litE = es := by rfl) (hys : (csOf es).map (·.1) = ys.map strOf := by rfl) (hcs : (csOf es).length ≤ 1000 := by decide) (ez : z' = strOf z := by rfl)
    (hne : ∀ y ∈ ys, (strOf y == strOf z) = false := by decide)
    (da : (a == ("__debug__" : Str)) = false := by decide) (dk : (k == ("__debug__" : Str)) = false := by decide) (dk2 : (k == ("__classdict__" : Str)) = false := by decide)
    (hst : starEach [.Name a p4, .Constant (.str z') j c1] X.env = [(false, eval (.Name a p4) X.env), (false, eval (.Constant (.str z') j c1) X.env)] := by rfl)
    (hbase : attributeBase (.Name k p3) "replace" X.env (eval (.Name k p3) X.env) = eval (.Name k p3) X.env := by rfl) (hline : (apos.endLine == cpos.line) = true := by rfl)
    (hs : swapsWith (.Call (.Attribute (.Name k p3) "replace" apos) [.Name a p4, .Constant (.str z') j c1] [] cpos) (some (.Name k p6)) pos.line X.env = pure false := by rfl)
    (hf : ∀ x, foldedSetIterable (.List es lp) X.env x = pure x := by intro _; rfl) :
    OST X W (.For (.Name a p1) (.List es lp) [.Assign [.Name k p6] (.Call (.Attribute (.Name k p3) "replace" apos) [.Name a p4, .Constant (.str z') j c1] [] cpos) pos] [] fpos) (sForLit ys z ia ik) := by
  subst ez
  have P := pst_forLit (X := X) (cs := csOf es) (z := strOf z) (j := j) (p1 := p1) (p3 := p3) (p4 := p4) (p6 := p6) (c1 := c1) (lp := lp) (apos := apos) (cpos := cpos) (pos := pos) (fpos := fpos) hp hc hN nak ha hk la lk hcs (fun c _ => rfl) da dk dk2 hst hbase hline hs (by rw [hes]; exact hf)
  rw [hes] at P
  refine ⟨_, P, fun ρ S io F σ H D st en h => ?_⟩
  show litT (strOf z) ia ik ((csOf es).map (·.1)) σ fun σ' => D.nx σ' H
  rw [hys]
  unfold sForLit at h
  cases q : litGo z ia ik ys ρ with
  | none => rw [q] at h; exact h.elim
  | some ρ2 =>
    rw [q] at h
    exact lit_of en q hne fun σ2 en2 => h io F H σ2 Nxt.refl st en2
end
section
variable {X : Cx} {W : WX} {e : Expr} {rest : List Stmt} {me : ME} {mrest : MS} {i : Nat} {x : Str} {pos' pos : Pos}
theorem oss_asgT (hN : X.N.Nodup) (he : OE X W e me) (hr : OSsT X W rest mrest) (hi : X.N[i]? = some x := by rfl) (lx : X.env.kindOf x = some .local := by rfl)
    (hs : swapsWith e (some (.Name x pos')) pos.line X.env = pure false := by rfl) : OSs X W (.Assign [.Name x pos'] e pos :: rest) (sSeq (sAsg me (gNm i)) mrest) := by
  obtain ⟨t, p, he⟩ := he
  obtain ⟨u, q, hr⟩ := hr
  refine ⟨fun D σ H => t σ H fun v H1 => u D (σ.set i (some v)) H1, ⟨fun pins s σ H D I h => ?_⟩, fun ρ S io F σ H D st en h => ?_⟩
  · refine wpAny_execs_cons (wpAny_Assign_Name (thn (p.run pins s σ H _ I h) fun v s1 ⟨y, H1, I1, r1, q1⟩ => ?_) hs)
    exact store_raw I1 hN hi lx r1 fun s2 t2 I2 _ _ => q pins s2 _ H1 D t2 I2 q1
  · have h : RS X.K ((me ρ S).go ρ fun d S1 => mrest (ρ.set i (some d)) S1) io F H D W := by
      unfold sSeq sAsg at h
      cases q : me ρ S with
      | ok d S1 => rw [q] at h; exact h
      | exc c x S1 => rw [q] at h; exact h
      | bad => rw [q] at h; exact h
    refine he ρ S io F σ H _ st en (RS.go en h fun d S1 io1 F1 H1 v e1 n1 s1 r1 h1 => ?_)
    exact hr (ρ.set i (some d)) S1 io1 F1 (σ.set i (some v)) H1 _ s1 ((en.nxt n1).set r1 i) h1
end
end Mir

namespace Law
open PySem L2 Mir

def b__law_term_text (self_ : MF) : MS := (sSeq (sIf (tVal (eBin pEq (eCall pLen (aCons (eVar 0) aNil)) (eC (.int 1)))) (sRet (eItem (eVar 0) (eC (.int 0)))) sPass) (sSeq (sIf (tVal (eBin pEq (eCall pLen (aCons (eVar 0) aNil)) (eC (.int 2)))) (sRet (eBin pAdd (eBin pAdd (eBin pAdd (eItem (eVar 0) (eC (.int 0))) (eC (.str [40]))) (eFn self_ (aCons (eItem (eVar 0) (eC (.int 1))) aNil))) (eC (.str [41])))) sPass) (sRet (eBin pAdd (eBin pAdd (eBin pAdd (eBin pAdd (eBin pAdd (eBin pAdd (eC (.str [40])) (eFn self_ (aCons (eItem (eVar 0) (eC (.int 1))) aNil))) (eC (.str [32]))) (eItem (eVar 0) (eC (.int 0)))) (eC (.str [32]))) (eFn self_ (aCons (eItem (eVar 0) (eC (.int 2))) aNil))) (eC (.str [41]))))))
def m__law_term_text : Nat → MF
  | 0 => fun _ _ => .bad
  | n + 1 => mkF 1 0 (b__law_term_text (m__law_term_text n))

def b__law_ladle : MS := (sSeq (sIf (tVal (eBin (pIB fun i j => decide (j < i)) (eItem (eVar 0) (eC (.int 0))) (eC (.int 0)))) (sSeq (sAsg (eCall pDivmod (aCons (eItem (eVar 0) (eC (.int 0))) (aCons (eVar 1) aNil))) (gTp 2 (gCn (gSubM (eVar 0) (eC (.int 0))) (gCn (gNm 3) gNl)))) (sRet (eVar 3))) sPass) (sSeq (sAsg (eBin pAdd (eItem (eVar 0) (eC (.int 2))) (eC (.int 1))) (gSubM (eVar 0) (eC (.int 2)))) (sSeq (sAsg (eBin (pIC bMod fun i j => i % j) (eCall pInt (aCons (eBin pAdd (eItem (eVar 0) (eC (.int 1))) (eBin pMul (eC (.int 54001)) (eItem (eVar 0) (eC (.int 2))))) aNil)) (eC (.int 2147483323))) (gNm 2)) (sSeq (sAsg (eBin (pIC bMod fun i j => i % j) (eCall pInt (aCons (eBin pAdd (eBin pAdd (eBin pMul (eVar 2) (eBin pAdd (eBin (pIC bMod fun i j => i % j) (eCall pInt (aCons (eVar 2) aNil)) (eC (.int 25013))) (eC (.int 57037)))) (eBin pMul (eC (.int 41)) (eItem (eVar 0) (eC (.int 2))))) (eC (.int 7))) aNil)) (eC (.int 2147483323))) (gSubM (eVar 0) (eC (.int 1)))) (sRet (eBin (pIC bMod fun i j => i % j) (eBin (pIC bDiv fun i j => i / j) (eCall pInt (aCons (eItem (eVar 0) (eC (.int 1))) aNil)) (eC (.int 193))) (eVar 1)))))))
def m__law_ladle : MF := mkF 2 2 b__law_ladle

def b__law_pick : MS := (sRet (eItem (eVar 1) (eFn m__law_ladle (aCons (eVar 0) (aCons (eCall pLen (aCons (eVar 1) aNil)) aNil)))))
def m__law_pick : MF := mkF 2 0 b__law_pick

def b__law_drawn_term (self_ : MF) : MS := (sSeq (sAsg (eFn m__law_ladle (aCons (eVar 0) (aCons (eC (.int 9)) aNil))) (gNm 3)) (sSeq (sIf (tOrM (tVal (eBin pEq (eVar 1) (eC (.int 0)))) (tVal (eBin pEq (eVar 3) (eC (.int 0))))) (sRet (eTup (aCons (eFn m__law_pick (aCons (eVar 0) (aCons (eIfM (tVal (eBin pEq (eFn m__law_ladle (aCons (eVar 0) (aCons (eC (.int 4)) aNil))) (eC (.int 0)))) (eBin pAdd (eVar 2) (eLst (aCons (eC (.str [48])) (aCons (eC (.str [49])) aNil)))) (eVar 2)) aNil))) aNil))) sPass) (sSeq (sIf (tVal (eBin bLt (eVar 3) (eC (.int 6)))) (sRet (eTup (aCons (eItem (eLst (aCons (eC (.str [99])) (aCons (eC (.str [105])) (aCons (eC (.str [110])) (aCons (eC (.str [99])) (aCons (eC (.str [105])) aNil)))))) (eBin (pI fun i j => i - j) (eVar 3) (eC (.int 1)))) (aCons (eFn self_ (aCons (eVar 0) (aCons (eBin (pI fun i j => i - j) (eVar 1) (eC (.int 1))) (aCons (eVar 2) aNil)))) aNil)))) sPass) (sSeq (sAsg (eFn self_ (aCons (eVar 0) (aCons (eBin (pI fun i j => i - j) (eVar 1) (eC (.int 1))) (aCons (eVar 2) aNil)))) (gNm 4)) (sRet (eTup (aCons (eItem (eLst (aCons (eC (.str [38])) (aCons (eC (.str [124])) (aCons (eC (.str [38])) aNil)))) (eBin (pI fun i j => i - j) (eVar 3) (eC (.int 6)))) (aCons (eVar 4) (aCons (eFn self_ (aCons (eVar 0) (aCons (eBin (pI fun i j => i - j) (eVar 1) (eC (.int 1))) (aCons (eVar 2) aNil)))) aNil)))))))))
def m__law_drawn_term : Nat → MF
  | 0 => fun _ _ => .bad
  | n + 1 => mkF 3 2 (b__law_drawn_term (m__law_drawn_term n))

def b__law_bent_text : MS := (sSeq (sPar 3 4 (aCons (eFn m__law_ladle (aCons (eVar 0) (aCons (eC (.int 6)) aNil))) (aCons (eFn m__law_ladle (aCons (eVar 0) (aCons (eBin pAdd (eCall pLen (aCons (eVar 1) aNil)) (eC (.int 1))) aNil))) aNil))) (sSeq (sAsg (eFn m__law_pick (aCons (eVar 0) (aCons (eLst (aCons (eC (.str [40])) (aCons (eC (.str [41])) (aCons (eC (.str [120])) (aCons (eC (.str [99, 40])) (aCons (eC (.str [32, 38, 32])) (aCons (eC (.str [32, 124, 32])) (aCons (eC (.str [38])) (aCons (eC (.str [32])) (aCons (eC (.str [110])) (aCons (eC (.str [48])) (aCons (eC (.str [119])) (aCons (eC (.str [88])) (aCons (eC (.str [99, 105, 40])) (aCons (eC (.str [105])) (aCons (eC (.str [])) (aCons (eC (.str [10])) aNil))))))))))))))))) aNil))) (gNm 2)) (sSeq (sIf (tVal (eBin pEq (eVar 3) (eC (.int 0)))) (sRet (eBin pAdd (eBin pAdd (eSl (eVar 1) oNo (oYes (eVar 4))) (eVar 2)) (eSl (eVar 1) (oYes (eVar 4)) oNo))) sPass) (sSeq (sIf (tVal (eBin pEq (eVar 3) (eC (.int 1)))) (sRet (eBin pAdd (eSl (eVar 1) oNo (oYes (eVar 4))) (eSl (eVar 1) (oYes (eBin pAdd (eVar 4) (eC (.int 1)))) oNo))) sPass) (sSeq (sIf (tVal (eBin pEq (eVar 3) (eC (.int 2)))) (sRet (eBin pAdd (eBin pAdd (eSl (eVar 1) oNo (oYes (eVar 4))) (eVar 2)) (eSl (eVar 1) (oYes (eBin pAdd (eVar 4) (eC (.int 1)))) oNo))) sPass) (sSeq (sIf (tVal (eBin pEq (eVar 3) (eC (.int 3)))) (sRet (eBin pAdd (eSl (eVar 1) oNo (oYes (eVar 4))) (eUn pRev (eSl (eVar 1) (oYes (eVar 4)) oNo)))) sPass) (sSeq (sIf (tVal (eBin pEq (eVar 3) (eC (.int 4)))) (sRet (eBin pAdd (eBin pAdd (eFn m__law_pick (aCons (eVar 0) (aCons (eLst (aCons (eC (.str [40])) (aCons (eC (.str [])) (aCons (eC (.str [110, 40])) (aCons (eC (.str [40, 40])) aNil))))) aNil))) (eVar 1)) (eFn m__law_pick (aCons (eVar 0) (aCons (eLst (aCons (eC (.str [41])) (aCons (eC (.str [])) (aCons (eC (.str [41, 41])) (aCons (eC (.str [32, 38, 32, 120, 41])) aNil))))) aNil))))) sPass) (sRet (eBin pAdd (eBin pAdd (eBin pAdd (eBin pAdd (eC (.str [40])) (eVar 1)) (eFn m__law_pick (aCons (eVar 0) (aCons (eLst (aCons (eC (.str [32, 38, 32])) (aCons (eC (.str [32, 124, 32])) (aCons (eC (.str [32])) (aCons (eC (.str [38])) (aCons (eC (.str [32, 38, 32, 32])) aNil)))))) aNil)))) (eVar 1)) (eC (.str [41])))))))))))
def m__law_bent_text : MF := mkF 2 3 b__law_bent_text

def b_Rows_number_of : MS := (sSeq (sIf (tVal (eNotInT (eVar 1) (eFld "Rows" "found" (eVar 0)))) (sSeq (sPutT (eCall pLen (aCons (eFld "Rows" "listed" (eVar 0)) aNil)) (eFld "Rows" "found" (eVar 0)) (eVar 1)) (sExpr (eMut isL fApp (eFld "Rows" "listed" (eVar 0)) (aCons (eVar 1) aNil)))) sPass) (sRet (eItemT (eFld "Rows" "found" (eVar 0)) (eVar 1))))
def m_Rows_number_of : MF := mkF 2 0 b_Rows_number_of

def b_read_into : MS := (sSeq (sPar3 2 3 4 (aCons (eC .non) (aCons (eLstC aNil) (aCons (eC (.int 0)) aNil)))) (sSeq (sWhile 1000 (tVal (eBin bLt (eVar 4) (eCall pLen (aCons (eVar 1) aNil)))) (sSeq (sAsg (eItem (eVar 1) (eVar 4)) (gNm 5)) (sIf (tAndM (tVal (eIsN (eVar 2))) (tVal (eBin pIn2 (eVar 5) (eC (.tup [(.str [120]), (.str [121]), (.str [122]), (.str [48]), (.str [49])]))))) (sPar 2 4 (aCons (eMeth "Rows" "number_of" m_Rows_number_of (eVar 0) (aCons (eTupT (aCons (eVar 5) aNil)) aNil)) (aCons (eBin pAdd (eVar 4) (eC (.int 1))) aNil))) (sIf (tAndM (tVal (eIsN (eVar 2))) (tAndM (tVal (eBin pIn2 (eVar 5) (eC (.tup [(.str [99]), (.str [105]), (.str [110])])))) (tVal (eBin pEq (eSl (eVar 1) (oYes (eBin pAdd (eVar 4) (eC (.int 1)))) (oYes (eBin pAdd (eVar 4) (eC (.int 2))))) (eC (.str [40])))))) (sSeq (sExpr (eMut isL fApp (eVar 3) (aCons (eTup (aCons (eVar 5) aNil)) aNil))) (sAsg (eBin pAdd (eVar 4) (eC (.int 2))) (gNm 4))) (sIf (tAndM (tVal (eIsN (eVar 2))) (tVal (eBin pEq (eVar 5) (eC (.str [40]))))) (sSeq (sExpr (eMut isL fApp (eVar 3) (aCons (eTup (aCons (eC (.str [40])) aNil)) aNil))) (sAsg (eBin pAdd (eVar 4) (eC (.int 1))) (gNm 4))) (sIf (tOrM (tVal (eIsN (eVar 2))) (tVal (eBin pEq (eVar 3) (eLst aNil)))) (sRet (eC .non)) (sIf (tAndM (tVal (eBin pEq (eVar 5) (eC (.str [41])))) (tVal (eBin pNe (eItem (eItem (eVar 3) (eUn pNeg (eC (.int 1)))) (eC (.int 0))) (eC (.str [40]))))) (sPar 2 4 (aCons (eMeth "Rows" "number_of" m_Rows_number_of (eVar 0) (aCons (eTupT (aStar (eMut isL fPop (eVar 3) aNil) (aCons (eVar 2) aNil))) aNil)) (aCons (eBin pAdd (eVar 4) (eC (.int 1))) aNil))) (sIf (tAndM (tVal (eBin pEq (eItem (eVar 3) (eUn pNeg (eC (.int 1)))) (eTup (aCons (eC (.str [40])) aNil)))) (tVal (eBin pIn2 (eSl (eVar 1) (oYes (eVar 4)) (oYes (eBin pAdd (eVar 4) (eC (.int 3))))) (eTup (aCons (eC (.str [32, 38, 32])) (aCons (eC (.str [32, 124, 32])) aNil)))))) (sSeq (sAsg (eTup (aCons (eItem (eVar 1) (eBin pAdd (eVar 4) (eC (.int 1)))) (aCons (eVar 2) aNil))) (gSubM (eVar 3) (eUn pNeg (eC (.int 1))))) (sPar 2 4 (aCons (eC .non) (aCons (eBin pAdd (eVar 4) (eC (.int 3))) aNil)))) (sRet (eC .non)))))))))) (sRet (eIfM (tVal (eBin pEq (eVar 3) (eLst aNil))) (eVar 2) (eC .non)))))
def m_read_into : MF := mkF 2 4 b_read_into

def b_Rows___init__ : MS := (sParG 2 (aCons (eLstR 2 (eVar 0)) (aCons (eDctR 1 (eVar 0)) aNil)) (gCn (gFldM "Rows" "listed" (eVar 0)) (gCn (gFldM "Rows" "found" (eVar 0)) gNl)))
def m_Rows___init__ : MF := mkF 1 0 b_Rows___init__

def b_is_text : MS := (sRet (eAndM (eIsi isiCs (eVar 0) (eC (.ty "str"))) (eAndM (eBin bLe (eCall pLen (aCons (eVar 0) aNil)) (eC (.int 300))) (eNotN (eFn m_read_into (aCons (eMakeR 2 "Rows" m_Rows___init__) (aCons (eVar 0) aNil)))))))
def m_is_text : MF := mkF 1 0 b_is_text

def b_Term___init__ : MS := (sSeq (sIf (tNotM (tVal (eFn m_is_text (aCons (eVar 1) aNil)))) (sRaise "InvalidText" "given" (aCons (eVar 1) aNil)) sPass) (sAsg (eVar 1) (gFldM "Term" "told" (eVar 0))))
def m_Term___init__ : MF := mkF 2 0 b_Term___init__

def b_Term___repr__ : MS := (sRet (eJoin (jTxt [84, 101, 114, 109, 32] (jFmt (eFld "Term" "told" (eVar 0)) jNil))))
def m_Term___repr__ : MF := mkF 1 0 b_Term___repr__
def rT : List (Str × MF) := [("Term", m_Term___repr__)]

def b_Term_text : MS := (sRet (eFld "Term" "told" (eVar 0)))
def m_Term_text : MF := mkF 1 0 b_Term_text

def b__law_told : MS := (sSeq (sTry exT (sAsg (eMake false "Term" m_Term___init__ (aCons (eVar 0) aNil)) (gNm 2)) [("InvalidText", some 1, (fun c_ x_ => sRet (eIfM (tAndM (tVal (eXi "InvalidText" true c_ x_)) (tVal (eBin pEq (eRepr rT (eXf "InvalidText" "given" c_ x_)) (eRepr rT (eVar 0))))) (eC (.bl false)) (eC .non))))]) (sRet (eBin pEq (eProp "Term" m_Term_text (eVar 2)) (eVar 0))))
def m__law_told : MF := mkF 1 2 b__law_told

def b__law_is_term : MS := (sSeq (sIf (tOrM (tVal (eBin (pIB fun i j => decide (j < i)) (eCall pLen (aCons (eVar 0) aNil)) (eC (.int 300)))) (tVal (eBin pIn2 (eC (.str [88])) (eVar 0)))) (sRet (eC (.bl false))) sPass) (sSeq (sForLit [[120], [121], [122], [48], [49]] [88] 1 0) (sSeq (sFor (itRange1 (eC (.int 310))) (gNm 2) (sSeq (sAsg (eVar 0) (gNm 3)) (sSeq (sForLit [[99, 40, 88, 41], [105, 40, 88, 41], [110, 40, 88, 41], [40, 88, 32, 38, 32, 88, 41], [40, 88, 32, 124, 32, 88, 41]] [88] 4 3) (sSeq (sIf (tVal (eBin pEq (eVar 3) (eVar 0))) sBreak sPass) (sAsg (eVar 3) (gNm 0)))))) (sRet (eBin pEq (eVar 0) (eC (.str [88])))))))
def m__law_is_term : MF := mkF 1 4 b__law_is_term

def b__law_long : MS := (sSeq (sAsg (eFn m__law_pick (aCons (eVar 0) (aCons (eLst (aCons (eC (.str [120])) (aCons (eC (.str [40, 120, 32, 38, 32, 121, 41])) (aCons (eC (.str [40, 40, 48, 32, 124, 32, 49, 41, 32, 38, 32, 122, 41])) aNil)))) aNil))) (gNm 1)) (sSeq (sFor (itRange1 (eC (.int 120))) (gNm 2) (sIf (tVal (eBin bLt (eCall pLen (aCons (eVar 1) aNil)) (eC (.int 290)))) (sAsg (eFn m__law_pick (aCons (eVar 0) (aCons (eLst (aCons (eBin pAdd (eBin pAdd (eC (.str [99, 40])) (eVar 1)) (eC (.str [41]))) (aCons (eBin pAdd (eBin pAdd (eC (.str [40])) (eVar 1)) (eC (.str [32, 38, 32, 122, 41]))) (aCons (eBin pAdd (eBin pAdd (eC (.str [110, 40])) (eVar 1)) (eC (.str [41]))) (aCons (eBin pAdd (eBin pAdd (eC (.str [40, 121, 32, 124, 32])) (eVar 1)) (eC (.str [41]))) aNil))))) aNil))) (gNm 1)) sPass)) (sRet (eFn m__law_pick (aCons (eVar 0) (aCons (eLst (aCons (eBin pAdd (eBin pAdd (eC (.str [105, 40])) (eVar 1)) (eC (.str [41]))) (aCons (eBin pAdd (eBin pAdd (eC (.str [105, 40, 99, 40])) (eVar 1)) (eC (.str [41, 41]))) (aCons (eBin pAdd (eBin pAdd (eC (.str [40, 120, 32, 38, 32, 110, 40])) (eVar 1)) (eC (.str [41, 41]))) (aCons (eBin pAdd (eBin pAdd (eC (.str [99, 40, 105, 40, 110, 40])) (eVar 1)) (eC (.str [41, 41, 41]))) aNil))))) aNil))))))
def m__law_long : MF := mkF 1 2 b__law_long

def b__law_right : MS := (sSeq (sFor (itRange1 (eC (.int 12))) (gNm 1) (sSeq (sAsg (eFn (m__law_term_text 16) (aCons (eFn (m__law_drawn_term 7) (aCons (eVar 0) (aCons (eFn m__law_ladle (aCons (eVar 0) (aCons (eC (.int 5)) aNil))) (aCons (eLst (aCons (eC (.str [120])) (aCons (eC (.str [121])) (aCons (eC (.str [122])) aNil)))) aNil)))) aNil)) (gNm 2)) (sSeq (sAsg (eFn m__law_bent_text (aCons (eVar 0) (aCons (eVar 2) aNil))) (gNm 5)) (sSeq (sIf (tOrM (tVal (eBin pIsNot (eFn m__law_told (aCons (eVar 2) aNil)) (eC (.bl true)))) (tVal (eBin pNe (eRepr rT (eFn m__law_told (aCons (eVar 5) aNil))) (eRepr rT (eFn m__law_is_term (aCons (eVar 5) aNil)))))) (sRet (eC (.bl false))) sPass) (sSeq (sAsg (eFn m__law_bent_text (aCons (eVar 0) (aCons (eVar 5) aNil))) (gNm 5)) (sIf (tVal (eBin pNe (eRepr rT (eFn m__law_told (aCons (eVar 5) aNil))) (eRepr rT (eFn m__law_is_term (aCons (eVar 5) aNil))))) (sRet (eC (.bl false))) sPass)))))) (sSeq (sAsg (eFn m__law_long (aCons (eVar 0) aNil)) (gNm 2)) (sSeq (sIf (tVal (eBin pNe (eRepr rT (eFn m__law_told (aCons (eVar 2) aNil))) (eRepr rT (eFn m__law_is_term (aCons (eVar 2) aNil))))) (sRet (eC (.bl false))) sPass) (sSeq (sAsg (eBin pAdd (eBin pAdd (eBin pMulS (eC (.str [99, 40])) (eC (.int 99))) (eC (.str [120]))) (eBin pMulS (eC (.str [41])) (eC (.int 99)))) (gNm 3)) (sSeq (sIf (tVal (eBin pNe (eLst (aCons (eCall pLen (aCons (eVar 3) aNil)) (aCons (eFn m__law_told (aCons (eVar 3) aNil)) (aCons (eFn m__law_told (aCons (eBin pAdd (eBin pAdd (eC (.str [105, 40])) (eVar 3)) (eC (.str [41]))) aNil)) (aCons (eFn m__law_told (aCons (eSl (eVar 3) (oYes (eC (.int 1))) oNo) aNil)) aNil))))) (eLst (aCons (eC (.int 298)) (aCons (eC (.bl true)) (aCons (eC (.bl false)) (aCons (eC (.bl false)) aNil))))))) (sRet (eC (.bl false))) sPass) (sSeq (sAsg (eFn m__law_pick (aCons (eVar 0) (aCons (eLst (aCons (eC .non) (aCons (eC (.int 0)) (aCons (eC (.bl true)) (aCons (eTup (aCons (eC (.str [120])) aNil)) (aCons (eLst (aCons (eC (.str [120])) aNil)) (aCons eDct0 (aCons (eMake false "Term" m_Term___init__ (aCons (eC (.str [120])) aNil)) (aCons (eBin (pIC bPow fun i j => i ^ j.toNat) (eC (.int 10)) (eC (.int 40))) (aCons (eTup aNil) aNil)))))))))) aNil))) (gNm 4)) (sRet (eAndM (eBin pIs (eFn m__law_told (aCons (eVar 3) aNil)) (eC (.bl true))) (eBin pIs (eFn m__law_told (aCons (eVar 4) aNil)) (eC (.bl false)))))))))))
def m__law_right : MF := mkF 1 5 b__law_right

def b__law_urn_of : MS := (sSeq (sPar 2 3 (aCons (eIfM (tVal (eBin bLt (eVar 1) (eCall pLen (aCons (eVar 0) aNil)))) (eItem (eVar 0) (eVar 1)) (eC (.int 0))) (aCons (eBin pAdd (eC (.int 3001)) (eBin pMul (eC (.int 80021)) (eVar 1))) aNil))) (sSeq (sFor (itEnum (eSl (eVar 0) oNo (oYes (eC (.int 7))))) (gTp 2 (gCn (gNm 4) (gCn (gNm 5) gNl))) (sAsg (eBin (pIC bMod fun i j => i % j) (eCall pInt (aCons (eBin pAdd (eBin pMul (eVar 3) (eBin pAdd (eC (.int 24001)) (eBin pMul (eC (.int 26)) (eVar 4)))) (eBin pMul (eC (.int 5)) (eVar 5))) aNil)) (eC (.int 2147483323))) (gNm 3))) (sRet (eLstC (aCons (eIfM (tOrM (tVal (eBin bLt (eVar 2) (eC (.int 0)))) (tVal (eBin (pIB fun i j => decide (j ≤ i)) (eVar 2) (eBin (pIC bPow fun i j => i ^ j.toNat) (eC (.int 10)) (eC (.int 17)))))) (eCall pAbs (aCons (eVar 2) aNil)) (eC (.int 0))) (aCons (eBin (pIC bMod fun i j => i % j) (eCall pInt (aCons (eBin pAdd (eVar 3) (eBin pMul (eC (.int 66029)) (eVar 2))) aNil)) (eC (.int 2147483323))) (aCons (eC (.int 0)) aNil)))))))
def m__law_urn_of : MF := mkK 2 4 b__law_urn_of

def b_law : MS := (sRet (eCall pAll (aCons (eLc (itRange1 (eCall pMax2 (aCons (eC (.int 2)) (aCons (eCall pMin2 (aCons (eCall pLen (aCons (eVar 0) aNil)) (aCons (eC (.int 5)) aNil))) aNil)))) [1] (gNm 1) tsYes (eFn m__law_right (aCons (eFn m__law_urn_of (aCons (eVar 0) (aCons (eVar 1) aNil))) aNil))) aNil)))
def m_law : MF := mkF 1 1 b_law
end Law

namespace Law
open PySem L2 Mir
structure Tp (K : PySem.W.Frag) (mg : Str → Option Value) : Prop where
  f_abs : mg "abs" = none
  f_all : mg "all" = none
  f_divmod : mg "divmod" = none
  f_enumerate : mg "enumerate" = none
  f_int : mg "int" = none
  f_isinstance : mg "isinstance" = none
  f_len : mg "len" = none
  f_max : mg "max" = none
  f_min : mg "min" = none
  f_range : mg "range" = none
  f_repr : mg "repr" = none
  f_str : mg "str" = none
  v_DEEDS : GV K mg "DEEDS" (.tup [(.str [99]), (.str [105]), (.str [110])])
  v_MOST_SIGNS : GV K mg "MOST_SIGNS" (.int 300)
  v_PLAIN : GV K mg "PLAIN" (.tup [(.str [120]), (.str [121]), (.str [122]), (.str [48]), (.str [49])])
  g_InvalidText : mg "InvalidText" = some (.ref (He.ga K "InvalidText"))
  g_Rows : mg "Rows" = some (.ref (He.ga K "Rows"))
  g_Term : mg "Term" = some (.ref (He.ga K "Term"))
  g_WrongValue : mg "WrongValue" = some (.ref (He.ga K "WrongValue"))
  g__law_bent_text : mg "_law_bent_text" = some (.ref (He.ga K "_law_bent_text"))
  g__law_drawn_term : mg "_law_drawn_term" = some (.ref (He.ga K "_law_drawn_term"))
  g__law_is_term : mg "_law_is_term" = some (.ref (He.ga K "_law_is_term"))
  g__law_ladle : mg "_law_ladle" = some (.ref (He.ga K "_law_ladle"))
  g__law_long : mg "_law_long" = some (.ref (He.ga K "_law_long"))
  g__law_pick : mg "_law_pick" = some (.ref (He.ga K "_law_pick"))
  g__law_right : mg "_law_right" = some (.ref (He.ga K "_law_right"))
  g__law_term_text : mg "_law_term_text" = some (.ref (He.ga K "_law_term_text"))
  g__law_told : mg "_law_told" = some (.ref (He.ga K "_law_told"))
  g__law_urn_of : mg "_law_urn_of" = some (.ref (He.ga K "_law_urn_of"))
  g_is_text : mg "is_text" = some (.ref (He.ga K "is_text"))
  g_law : mg "law" = some (.ref (He.ga K "law"))
  g_read_into : mg "read_into" = some (.ref (He.ga K "read_into"))
  c_Rows : Cls K (He.ga K "Rows")
  c_Term : Cls K (He.ga K "Term")
  n_Rows_found : NoAttr K (He.ga K "Rows") "found"
  n_Rows_listed : NoAttr K (He.ga K "Rows") "listed"
  n_Term_told : NoAttr K (He.ga K "Term") "told"
  xk_InvalidText : ExK K "InvalidText"
  xi_InvalidText : ExI K "InvalidText"
  xn_InvalidText_given : ExN K "InvalidText" "given"
  kb_InvalidText_WrongValue : KitB K "InvalidText" "WrongValue" true
  sb : SbOk K exT
  me_Rows_number_of : Meth K (He.ga K "Rows") "number_of" (He.ma K (He.ga K "Rows") "number_of")
  mk_Rows : Mk K (He.ga K "Rows") (He.ma K (He.ga K "Rows") "__init__")
  mk_Term : Mk K (He.ga K "Term") (He.ma K (He.ga K "Term") "__init__")
  me_Term___repr__ : Meth K (He.ga K "Term") "__repr__" (He.ma K (He.ga K "Term") "__repr__")
  pr_Term_text : PropOf K (He.ga K "Term") "text" (pa K "Term" "text") (pg K "Term" "text")
  isi : IsiC K isiCs
  d__law_term_text : ∃ fd, FunD K "_law_term_text" "_law_term_text" (defArgs s__law_term_text) (defBody s__law_term_text) (defScope s__law_term_text) [] [] (He.ga K "_law_term_text") fd
  d__law_ladle : ∃ fd, FunD K "_law_ladle" "_law_ladle" (defArgs s__law_ladle) (defBody s__law_ladle) (defScope s__law_ladle) [] [] (He.ga K "_law_ladle") fd
  d__law_pick : ∃ fd, FunD K "_law_pick" "_law_pick" (defArgs s__law_pick) (defBody s__law_pick) (defScope s__law_pick) [] [] (He.ga K "_law_pick") fd
  d__law_drawn_term : ∃ fd, FunD K "_law_drawn_term" "_law_drawn_term" (defArgs s__law_drawn_term) (defBody s__law_drawn_term) (defScope s__law_drawn_term) [] [] (He.ga K "_law_drawn_term") fd
  d__law_bent_text : ∃ fd, FunD K "_law_bent_text" "_law_bent_text" (defArgs s__law_bent_text) (defBody s__law_bent_text) (defScope s__law_bent_text) [] [] (He.ga K "_law_bent_text") fd
  d_Rows_number_of : ∃ fd, FunD K "number_of" "Rows.number_of" (defArgs s_Rows_number_of) (defBody s_Rows_number_of) (defScope s_Rows_number_of) [] [] (He.ma K (He.ga K "Rows") "number_of") fd
  d_read_into : ∃ fd, FunD K "read_into" "read_into" (defArgs s_read_into) (defBody s_read_into) (defScope s_read_into) [] [] (He.ga K "read_into") fd
  d_Rows___init__ : ∃ fd, FunD K "__init__" "Rows.__init__" (defArgs s_Rows___init__) (defBody s_Rows___init__) (defScope s_Rows___init__) [] [] (He.ma K (He.ga K "Rows") "__init__") fd
  d_is_text : ∃ fd, FunD K "is_text" "is_text" (defArgs s_is_text) (defBody s_is_text) (defScope s_is_text) [] [] (He.ga K "is_text") fd
  d_Term___init__ : ∃ fd, FunD K "__init__" "Term.__init__" (defArgs s_Term___init__) (defBody s_Term___init__) (defScope s_Term___init__) [] [] (He.ma K (He.ga K "Term") "__init__") fd
  d_Term___repr__ : ∃ fd, FunD K "__repr__" "Term.__repr__" (defArgs s_Term___repr__) (defBody s_Term___repr__) (defScope s_Term___repr__) [] [] (He.ma K (He.ga K "Term") "__repr__") fd
  d_Term_text : ∃ fd, FunD K "text" "Term.text" (defArgs s_Term_text) (defBody s_Term_text) (defScope s_Term_text) [] [] (pg K "Term" "text") fd
  d__law_told : ∃ fd, FunD K "_law_told" "_law_told" (defArgs s__law_told) (defBody s__law_told) (defScope s__law_told) [] [] (He.ga K "_law_told") fd
  d__law_is_term : ∃ fd, FunD K "_law_is_term" "_law_is_term" (defArgs s__law_is_term) (defBody s__law_is_term) (defScope s__law_is_term) [] [] (He.ga K "_law_is_term") fd
  d__law_long : ∃ fd, FunD K "_law_long" "_law_long" (defArgs s__law_long) (defBody s__law_long) (defScope s__law_long) [] [] (He.ga K "_law_long") fd
  d__law_right : ∃ fd, FunD K "_law_right" "_law_right" (defArgs s__law_right) (defBody s__law_right) (defScope s__law_right) [] [] (He.ga K "_law_right") fd
  d__law_urn_of : ∃ fd, FunD K "_law_urn_of" "_law_urn_of" (defArgs s__law_urn_of) (defBody s__law_urn_of) (defScope s__law_urn_of) [] [] (He.ga K "_law_urn_of") fd
  d_law : ∃ fd, FunD K "law" "law" (defArgs s_law) (defBody s_law) (defScope s_law) [] [] (He.ga K "law") fd
  d_InvalidText___init__ : ∃ fd, FunD K "__init__" "InvalidText.__init__" (defArgs s_InvalidText___init__) (defBody s_InvalidText___init__) (defScope s_InvalidText___init__) [] [] (He.ma K (He.ga K "InvalidText") "__init__") fd
section
variable {P : Program} {w : World} {K : PySem.W.Frag} {mg : Str → Option Value} {base : Heap}
theorem sc_InvalidText___init__ : FnScope ["self", "given"] ["self", "given"] (defScope s_InvalidText___init__) := ⟨rfl, rfl, rfl, by decide +kernel, rfl, by decide +kernel, by decide +kernel⟩
theorem x_InvalidText (T : Tp K mg) : XC P w K mg base "InvalidText" "given" 1 := by
  obtain ⟨fd, F⟩ := T.d_InvalidText___init__
  exact ⟨T.g_InvalidText, T.xk_InvalidText.oex, _, fd, ["self", "given"], T.xi_InvalidText.ini, T.xi_InvalidText.ty, fn_xinit F sc_InvalidText___init__ T.xk_InvalidText.oex T.xn_InvalidText_given rfl (by first | exact Or.inl rfl | exact Or.inr (Or.inl rfl) | exact Or.inr (Or.inr rfl)) (by first | exact Or.inl rfl | exact Or.inr (Or.inl rfl) | exact Or.inr (Or.inr rfl)), FunD.bindsN F (fun _ _ _ _ _ _ us hl => match us, hl with | [_, _], _ => rfl)⟩
theorem sc__law_term_text : FnScope ["_law_tree"] ["_law_tree"] (defScope s__law_term_text) := ⟨rfl, rfl, rfl, by decide +kernel, rfl, by decide +kernel, by decide +kernel⟩
theorem g__law_term_text (T : Tp K mg) : ∀ n : Nat, GF P w K mg base "_law_term_text" (defArgs s__law_term_text) ["_law_tree"] (1 + n) (m__law_term_text n)
  | 0 => by
    obtain ⟨fd, F⟩ := T.d__law_term_text
    exact ⟨T.g__law_term_text, F.kp, fd, fn_bad, FunD.bindsN F (fun _ _ _ _ _ _ us hl => match us, hl with | [_], _ => rfl), Mir.FunD.hasPar F, Mir.FunD.at_ F⟩
  | n + 1 => by
    have G_ := g__law_term_text T n
    obtain ⟨fd, F⟩ := T.d__law_term_text
    refine ⟨T.g__law_term_text, F.kp, fd, ?_, FunD.bindsN F (fun _ _ _ _ _ _ us hl => match us, hl with | [_], _ => rfl), Mir.FunD.hasPar F, Mir.FunD.at_ F⟩
    refine fn_ok (k := 1 + n) F sc__law_term_text rfl fun cdv A outer s H E hr => ?_
    have nd := sc__law_term_text.nd
    have tk := takes_of (X := cxOf (L2.CX P w) P w K mg base ["_law_tree"] "_law_term_text" (defScope s__law_term_text) (He.ga K "_law_term_text") cdv A outer s H E) rfl rfl rfl rfl
    have po := passes_of (X := cxOf (L2.CX P w) P w K mg base ["_law_tree"] "_law_term_text" (defScope s__law_term_text) (He.ga K "_law_term_text") cdv A outer s H E) rfl
    exact (oss_cons (os_if (ot_eq hr.r (oe_len T.f_len (oe_var 0)) oe_int) (oss_one (os_ret (oe_it (oe_var 0) oe_int))) oss_nil) (oss_cons (os_if (ot_eq hr.r (oe_len T.f_len (oe_var 0)) oe_int) (oss_one (os_ret (oe_add (oe_add (oe_add (oe_it (oe_var 0) oe_int) oe_str) (oe_fn G_ hr (by omega) tk (oa_cons (oe_it (oe_var 0) oe_int) oa_nil))) oe_str))) oss_nil) (oss_one (os_ret (oe_add (oe_add (oe_add (oe_add (oe_add (oe_add oe_str (oe_fn G_ hr (by omega) tk (oa_cons (oe_it (oe_var 0) oe_int) oa_nil))) oe_str) (oe_it (oe_var 0) oe_int)) oe_str) (oe_fn G_ hr (by omega) tk (oa_cons (oe_it (oe_var 0) oe_int) oa_nil))) oe_str)))))
theorem sc__law_ladle : FnScope ["_law_urn", "_law_many", "_law_base", "_law_got"] ["_law_urn", "_law_many"] (defScope s__law_ladle) := ⟨rfl, rfl, rfl, by decide +kernel, rfl, by decide +kernel, by decide +kernel⟩
theorem g__law_ladle (T : Tp K mg) : GF P w K mg base "_law_ladle" (defArgs s__law_ladle) ["_law_urn", "_law_many"] 1 m__law_ladle := by
  obtain ⟨fd, F⟩ := T.d__law_ladle
  refine ⟨T.g__law_ladle, F.kp, fd, ?_, FunD.bindsN F (fun _ _ _ _ _ _ us hl => match us, hl with | [_, _], _ => rfl), Mir.FunD.hasPar F, Mir.FunD.at_ F⟩
  refine fn_ok (k := 0) F sc__law_ladle rfl fun cdv A outer s H E hr => ?_
  have nd := sc__law_ladle.nd
  have tk := takes_of (X := cxOf (L2.CX P w) P w K mg base ["_law_urn", "_law_many", "_law_base", "_law_got"] "_law_ladle" (defScope s__law_ladle) (He.ga K "_law_ladle") cdv A outer s H E) rfl rfl rfl rfl
  have po := passes_of (X := cxOf (L2.CX P w) P w K mg base ["_law_urn", "_law_many", "_law_base", "_law_got"] "_law_ladle" (defScope s__law_ladle) (He.ga K "_law_ladle") cdv A outer s H E) rfl
  exact (oss_cons (os_if (ot_gt (oe_it (oe_var 0) oe_int) oe_int) (oss_cons (os_asg (oe_divmod T.f_divmod (oe_it (oe_var 0) oe_int) (oe_var 1)) (og_tup rfl (ogs_cons (og_sub (oe_var 0) oe_int) (ogs_cons (og_name nd) ogs_nil)))) (oss_one (os_ret (oe_var 3)))) oss_nil) (oss_cons (os_asg (oe_add (oe_it (oe_var 0) oe_int) oe_int) (og_sub (oe_var 0) oe_int)) (oss_cons (os_set (i := 2) nd (oe_mod (oe_intC T.f_int (oe_add (oe_it (oe_var 0) oe_int) (oe_mul oe_int (oe_it (oe_var 0) oe_int)))) oe_int)) (oss_cons (os_asg (oe_mod (oe_intC T.f_int (oe_add (oe_add (oe_mul (oe_var 2) (oe_add (oe_mod (oe_intC T.f_int (oe_var 2)) oe_int) oe_int)) (oe_mul oe_int (oe_it (oe_var 0) oe_int))) oe_int)) oe_int) (og_sub (oe_var 0) oe_int)) (oss_one (os_ret (oe_mod (oe_fdiv (oe_intC T.f_int (oe_it (oe_var 0) oe_int)) oe_int) (oe_var 1))))))))
theorem sc__law_pick : FnScope ["_law_urn", "_law_menu"] ["_law_urn", "_law_menu"] (defScope s__law_pick) := ⟨rfl, rfl, rfl, by decide +kernel, rfl, by decide +kernel, by decide +kernel⟩
theorem g__law_pick (T : Tp K mg) : GF P w K mg base "_law_pick" (defArgs s__law_pick) ["_law_urn", "_law_menu"] 2 m__law_pick := by
  obtain ⟨fd, F⟩ := T.d__law_pick
  refine ⟨T.g__law_pick, F.kp, fd, ?_, FunD.bindsN F (fun _ _ _ _ _ _ us hl => match us, hl with | [_, _], _ => rfl), Mir.FunD.hasPar F, Mir.FunD.at_ F⟩
  refine fn_ok (k := 1) F sc__law_pick rfl fun cdv A outer s H E hr => ?_
  have nd := sc__law_pick.nd
  have tk := takes_of (X := cxOf (L2.CX P w) P w K mg base ["_law_urn", "_law_menu"] "_law_pick" (defScope s__law_pick) (He.ga K "_law_pick") cdv A outer s H E) rfl rfl rfl rfl
  have po := passes_of (X := cxOf (L2.CX P w) P w K mg base ["_law_urn", "_law_menu"] "_law_pick" (defScope s__law_pick) (He.ga K "_law_pick") cdv A outer s H E) rfl
  exact (oss_one (os_ret (oe_it (oe_var 1) (oe_fn (g__law_ladle T) hr (by decide) tk (oa_cons (oe_var 0) (oa_cons (oe_len T.f_len (oe_var 1)) oa_nil))))))
theorem sc__law_drawn_term : FnScope ["_law_urn", "_law_deep", "_law_letters", "_law_way", "_law_part"] ["_law_urn", "_law_deep", "_law_letters"] (defScope s__law_drawn_term) := ⟨rfl, rfl, rfl, by decide +kernel, rfl, by decide +kernel, by decide +kernel⟩
theorem g__law_drawn_term (T : Tp K mg) : ∀ n : Nat, GF P w K mg base "_law_drawn_term" (defArgs s__law_drawn_term) ["_law_urn", "_law_deep", "_law_letters"] (3 + n) (m__law_drawn_term n)
  | 0 => by
    obtain ⟨fd, F⟩ := T.d__law_drawn_term
    exact ⟨T.g__law_drawn_term, F.kp, fd, fn_bad, FunD.bindsN F (fun _ _ _ _ _ _ us hl => match us, hl with | [_, _, _], _ => rfl), Mir.FunD.hasPar F, Mir.FunD.at_ F⟩
  | n + 1 => by
    have G_ := g__law_drawn_term T n
    obtain ⟨fd, F⟩ := T.d__law_drawn_term
    refine ⟨T.g__law_drawn_term, F.kp, fd, ?_, FunD.bindsN F (fun _ _ _ _ _ _ us hl => match us, hl with | [_, _, _], _ => rfl), Mir.FunD.hasPar F, Mir.FunD.at_ F⟩
    refine fn_ok (k := 3 + n) F sc__law_drawn_term rfl fun cdv A outer s H E hr => ?_
    have nd := sc__law_drawn_term.nd
    have tk := takes_of (X := cxOf (L2.CX P w) P w K mg base ["_law_urn", "_law_deep", "_law_letters", "_law_way", "_law_part"] "_law_drawn_term" (defScope s__law_drawn_term) (He.ga K "_law_drawn_term") cdv A outer s H E) rfl rfl rfl rfl
    have po := passes_of (X := cxOf (L2.CX P w) P w K mg base ["_law_urn", "_law_deep", "_law_letters", "_law_way", "_law_part"] "_law_drawn_term" (defScope s__law_drawn_term) (He.ga K "_law_drawn_term") cdv A outer s H E) rfl
    exact (oss_cons (os_set (i := 3) nd (oe_fn (g__law_ladle T) hr (by omega) tk (oa_cons (oe_var 0) (oa_cons oe_int oa_nil)))) (oss_cons (os_if (ot_w (ow_or (ot_eq hr.r (oe_var 1) oe_int) (ow_or1 (ot_eq hr.r (oe_var 3) oe_int)))) (oss_one (os_ret (oe_tup (oa_cons (oe_fn (g__law_pick T) hr (by omega) tk (oa_cons (oe_var 0) (oa_cons (oe_if (ot_eq hr.r (oe_fn (g__law_ladle T) hr (by omega) tk (oa_cons (oe_var 0) (oa_cons oe_int oa_nil))) oe_int) (oe_add (oe_var 2) (oe_lst (oa_cons oe_str (oa_cons oe_str oa_nil)))) (oe_var 2)) oa_nil))) oa_nil)))) oss_nil) (oss_cons (os_if (ot_lt (oe_var 3) oe_int) (oss_one (os_ret (oe_tup (oa_cons (oe_it (oe_lst (oa_cons oe_str (oa_cons oe_str (oa_cons oe_str (oa_cons oe_str (oa_cons oe_str oa_nil)))))) (oe_sub (oe_var 3) oe_int)) (oa_cons (oe_fn G_ hr (by omega) tk (oa_cons (oe_var 0) (oa_cons (oe_sub (oe_var 1) oe_int) (oa_cons (oe_var 2) oa_nil)))) oa_nil))))) oss_nil) (oss_cons (os_set (i := 4) nd (oe_fn G_ hr (by omega) tk (oa_cons (oe_var 0) (oa_cons (oe_sub (oe_var 1) oe_int) (oa_cons (oe_var 2) oa_nil))))) (oss_one (os_ret (oe_tup (oa_cons (oe_it (oe_lst (oa_cons oe_str (oa_cons oe_str (oa_cons oe_str oa_nil)))) (oe_sub (oe_var 3) oe_int)) (oa_cons (oe_var 4) (oa_cons (oe_fn G_ hr (by omega) tk (oa_cons (oe_var 0) (oa_cons (oe_sub (oe_var 1) oe_int) (oa_cons (oe_var 2) oa_nil)))) oa_nil))))))))))
theorem sc__law_bent_text : FnScope ["_law_urn", "_law_text", "_law_sign", "_law_way", "_law_at"] ["_law_urn", "_law_text"] (defScope s__law_bent_text) := ⟨rfl, rfl, rfl, by decide +kernel, rfl, by decide +kernel, by decide +kernel⟩
theorem g__law_bent_text (T : Tp K mg) : GF P w K mg base "_law_bent_text" (defArgs s__law_bent_text) ["_law_urn", "_law_text"] 3 m__law_bent_text := by
  obtain ⟨fd, F⟩ := T.d__law_bent_text
  refine ⟨T.g__law_bent_text, F.kp, fd, ?_, FunD.bindsN F (fun _ _ _ _ _ _ us hl => match us, hl with | [_, _], _ => rfl), Mir.FunD.hasPar F, Mir.FunD.at_ F⟩
  refine fn_ok (k := 2) F sc__law_bent_text rfl fun cdv A outer s H E hr => ?_
  have nd := sc__law_bent_text.nd
  have tk := takes_of (X := cxOf (L2.CX P w) P w K mg base ["_law_urn", "_law_text", "_law_sign", "_law_way", "_law_at"] "_law_bent_text" (defScope s__law_bent_text) (He.ga K "_law_bent_text") cdv A outer s H E) rfl rfl rfl rfl
  have po := passes_of (X := cxOf (L2.CX P w) P w K mg base ["_law_urn", "_law_text", "_law_sign", "_law_way", "_law_at"] "_law_bent_text" (defScope s__law_bent_text) (He.ga K "_law_bent_text") cdv A outer s H E) rfl
  exact (oss_cons (os_par (i := 3) (j := 4) rfl nd (oa_cons (oe_fn (g__law_ladle T) hr (by decide) tk (oa_cons (oe_var 0) (oa_cons oe_int oa_nil))) (oa_cons (oe_fn (g__law_ladle T) hr (by decide) tk (oa_cons (oe_var 0) (oa_cons (oe_add (oe_len T.f_len (oe_var 1)) oe_int) oa_nil))) oa_nil))) (oss_cons (os_set (i := 2) nd (oe_fn (g__law_pick T) hr (by decide) tk (oa_cons (oe_var 0) (oa_cons (oe_lst (oa_cons oe_str (oa_cons oe_str (oa_cons oe_str (oa_cons oe_str (oa_cons oe_str (oa_cons oe_str (oa_cons oe_str (oa_cons oe_str (oa_cons oe_str (oa_cons oe_str (oa_cons oe_str (oa_cons oe_str (oa_cons oe_str (oa_cons oe_str (oa_cons oe_str (oa_cons oe_str oa_nil))))))))))))))))) oa_nil)))) (oss_cons (os_if (ot_eq hr.r (oe_var 3) oe_int) (oss_one (os_ret (oe_add (oe_add (oe_slice (oe_var 1) oo_none (oo_some (oe_var 4))) (oe_var 2)) (oe_slice (oe_var 1) (oo_some (oe_var 4)) oo_none)))) oss_nil) (oss_cons (os_if (ot_eq hr.r (oe_var 3) oe_int) (oss_one (os_ret (oe_add (oe_slice (oe_var 1) oo_none (oo_some (oe_var 4))) (oe_slice (oe_var 1) (oo_some (oe_add (oe_var 4) oe_int)) oo_none)))) oss_nil) (oss_cons (os_if (ot_eq hr.r (oe_var 3) oe_int) (oss_one (os_ret (oe_add (oe_add (oe_slice (oe_var 1) oo_none (oo_some (oe_var 4))) (oe_var 2)) (oe_slice (oe_var 1) (oo_some (oe_add (oe_var 4) oe_int)) oo_none)))) oss_nil) (oss_cons (os_if (ot_eq hr.r (oe_var 3) oe_int) (oss_one (os_ret (oe_add (oe_slice (oe_var 1) oo_none (oo_some (oe_var 4))) (oe_rev (oe_slice (oe_var 1) (oo_some (oe_var 4)) oo_none))))) oss_nil) (oss_cons (os_if (ot_eq hr.r (oe_var 3) oe_int) (oss_one (os_ret (oe_add (oe_add (oe_fn (g__law_pick T) hr (by decide) tk (oa_cons (oe_var 0) (oa_cons (oe_lst (oa_cons oe_str (oa_cons oe_str (oa_cons oe_str (oa_cons oe_str oa_nil))))) oa_nil))) (oe_var 1)) (oe_fn (g__law_pick T) hr (by decide) tk (oa_cons (oe_var 0) (oa_cons (oe_lst (oa_cons oe_str (oa_cons oe_str (oa_cons oe_str (oa_cons oe_str oa_nil))))) oa_nil)))))) oss_nil) (oss_one (os_ret (oe_add (oe_add (oe_add (oe_add oe_str (oe_var 1)) (oe_fn (g__law_pick T) hr (by decide) tk (oa_cons (oe_var 0) (oa_cons (oe_lst (oa_cons oe_str (oa_cons oe_str (oa_cons oe_str (oa_cons oe_str (oa_cons oe_str oa_nil)))))) oa_nil)))) (oe_var 1)) oe_str))))))))))
theorem sc_Rows_number_of : FnScope ["self", "row"] ["self", "row"] (defScope s_Rows_number_of) := ⟨rfl, rfl, rfl, by decide +kernel, rfl, by decide +kernel, by decide +kernel⟩
theorem g_Rows_number_of (T : Tp K mg) : GM P w K mg base "Rows" "number_of" (defArgs s_Rows_number_of) ["self", "row"] 1 m_Rows_number_of := by
  obtain ⟨fd, F⟩ := T.d_Rows_number_of
  refine ⟨T.c_Rows, T.me_Rows_number_of, fd, ?_, FunD.bindsN F (fun _ _ _ _ _ _ us hl => match us, hl with | [_, _], _ => rfl), Mir.FunD.hasPar F⟩
  refine fn_ok (k := 0) F sc_Rows_number_of rfl fun cdv A outer s H E hr => ?_
  have nd := sc_Rows_number_of.nd
  have tk := takes_of (X := cxOf (L2.CX P w) P w K mg base ["self", "row"] "Rows.number_of" (defScope s_Rows_number_of) (He.ma K (He.ga K "Rows") "number_of") cdv A outer s H E) rfl rfl rfl rfl
  have po := passes_of (X := cxOf (L2.CX P w) P w K mg base ["self", "row"] "Rows.number_of" (defScope s_Rows_number_of) (He.ma K (He.ga K "Rows") "number_of") cdv A outer s H E) rfl
  exact (oss_cons (os_if (ot_notInT hr.r (oe_var 1) (oe_fld T.c_Rows T.n_Rows_found (oe_var 0))) (oss_cons (os_putT hr.r (oe_fld T.c_Rows T.n_Rows_found (oe_var 0)) (oe_var 1) (oe_len T.f_len (oe_fld T.c_Rows T.n_Rows_listed (oe_var 0)))) (oss_one (os_expr (oe_append (oe_fld T.c_Rows T.n_Rows_listed (oe_var 0)) (oe_var 1))))) oss_nil) (oss_one (os_ret (oe_itemT hr.r (oe_fld T.c_Rows T.n_Rows_found (oe_var 0)) (oe_var 1)))))
theorem sc_read_into : FnScope ["rows", "text", "told", "opened", "at", "sign"] ["rows", "text"] (defScope s_read_into) := ⟨rfl, rfl, rfl, by decide +kernel, rfl, by decide +kernel, by decide +kernel⟩
theorem g_read_into (T : Tp K mg) : GF P w K mg base "read_into" (defArgs s_read_into) ["rows", "text"] 2 m_read_into := by
  obtain ⟨fd, F⟩ := T.d_read_into
  refine ⟨T.g_read_into, F.kp, fd, ?_, FunD.bindsN F (fun _ _ _ _ _ _ us hl => match us, hl with | [_, _], _ => rfl), Mir.FunD.hasPar F, Mir.FunD.at_ F⟩
  refine fn_ok (k := 1) F sc_read_into rfl fun cdv A outer s H E hr => ?_
  have nd := sc_read_into.nd
  have tk := takes_of (X := cxOf (L2.CX P w) P w K mg base ["rows", "text", "told", "opened", "at", "sign"] "read_into" (defScope s_read_into) (He.ga K "read_into") cdv A outer s H E) rfl rfl rfl rfl
  have po := passes_of (X := cxOf (L2.CX P w) P w K mg base ["rows", "text", "told", "opened", "at", "sign"] "read_into" (defScope s_read_into) (He.ga K "read_into") cdv A outer s H E) rfl
  exact (oss_cons (os_par3 (i := 2) (j := 3) (l := 4) rfl nd (oa_cons oe_non (oa_cons (oe_lstC oa_nil) (oa_cons oe_int oa_nil)))) (oss_cons (os_while 1000 po (ot_lt (oe_var 4) (oe_len T.f_len (oe_var 1))) (oss_cons (os_set (i := 5) nd (oe_it (oe_var 1) (oe_var 4))) (oss_one (os_if (ot_w (ow_and (ot_isN (oe_var 2)) (ow_and1 (ot_in2 hr.r (oe_var 5) (oe_gV T.v_PLAIN))))) (oss_one (os_par (i := 2) (j := 4) rfl nd (oa_cons (oe_meth (g_Rows_number_of T) hr (by decide) tk (oe_var 0) (oa_cons (oe_tupT (oa_cons (oe_var 5) oa_nil)) oa_nil)) (oa_cons (oe_add (oe_var 4) oe_int) oa_nil)))) (oss_one (os_if (ot_w (ow_and (ot_isN (oe_var 2)) (ow_and (ot_in2 hr.r (oe_var 5) (oe_gV T.v_DEEDS)) (ow_and1 (ot_eq hr.r (oe_slice (oe_var 1) (oo_some (oe_add (oe_var 4) oe_int)) (oo_some (oe_add (oe_var 4) oe_int))) oe_str))))) (oss_cons (os_expr (oe_append (oe_var 3) (oe_tup (oa_cons (oe_var 5) oa_nil)))) (oss_one (os_set (i := 4) nd (oe_add (oe_var 4) oe_int)))) (oss_one (os_if (ot_w (ow_and (ot_isN (oe_var 2)) (ow_and1 (ot_eq hr.r (oe_var 5) oe_str)))) (oss_cons (os_expr (oe_append (oe_var 3) (oe_tup (oa_cons oe_str oa_nil)))) (oss_one (os_set (i := 4) nd (oe_add (oe_var 4) oe_int)))) (oss_one (os_if (ot_w (ow_or (ot_isN (oe_var 2)) (ow_or1 (ot_eq hr.r (oe_var 3) (oe_lst oa_nil))))) (oss_one (os_ret oe_non)) (oss_one (os_if (ot_w (ow_and (ot_eq hr.r (oe_var 5) oe_str) (ow_and1 (ot_ne hr.r (oe_it (oe_it (oe_var 3) (oe_neg oe_int)) oe_int) oe_str)))) (oss_one (os_par (i := 2) (j := 4) rfl nd (oa_cons (oe_meth (g_Rows_number_of T) hr (by decide) tk (oe_var 0) (oa_cons (oe_tupT (oa_star (oe_pop (oe_var 3)) (oa_cons (oe_var 2) oa_nil))) oa_nil)) (oa_cons (oe_add (oe_var 4) oe_int) oa_nil)))) (oss_one (os_if (ot_w (ow_and (ot_eq hr.r (oe_it (oe_var 3) (oe_neg oe_int)) (oe_tup (oa_cons oe_str oa_nil))) (ow_and1 (ot_in2 hr.r (oe_slice (oe_var 1) (oo_some (oe_var 4)) (oo_some (oe_add (oe_var 4) oe_int))) (oe_tup (oa_cons oe_str (oa_cons oe_str oa_nil))))))) (oss_cons (os_asg (oe_tup (oa_cons (oe_it (oe_var 1) (oe_add (oe_var 4) oe_int)) (oa_cons (oe_var 2) oa_nil))) (og_sub (oe_var 3) (oe_neg oe_int))) (oss_one (os_par (i := 2) (j := 4) rfl nd (oa_cons oe_non (oa_cons (oe_add (oe_var 4) oe_int) oa_nil))))) (oss_one (os_ret oe_non)))))))))))))))) (oss_one (os_ret (oe_if (ot_eq hr.r (oe_var 3) (oe_lst oa_nil)) (oe_var 2) oe_non)))))
theorem sc_Rows___init__ : FnScope ["self"] ["self"] (defScope s_Rows___init__) := ⟨rfl, rfl, rfl, by decide +kernel, rfl, by decide +kernel, by decide +kernel⟩
theorem g_Rows___init__ (T : Tp K mg) : GC P w K mg base "Rows" (defArgs s_Rows___init__) ["self"] 1 m_Rows___init__ := by
  obtain ⟨fd, F⟩ := T.d_Rows___init__
  refine ⟨T.g_Rows, T.mk_Rows, fd, ?_, FunD.bindsN F (fun _ _ _ _ _ _ us hl => match us, hl with | [_], _ => rfl), Mir.FunD.hasPar F⟩
  refine fn_ok (k := 0) F sc_Rows___init__ rfl fun cdv A outer s H E hr => ?_
  have nd := sc_Rows___init__.nd
  have tk := takes_of (X := cxOf (L2.CX P w) P w K mg base ["self"] "Rows.__init__" (defScope s_Rows___init__) (He.ma K (He.ga K "Rows") "__init__") cdv A outer s H E) rfl rfl rfl rfl
  have po := passes_of (X := cxOf (L2.CX P w) P w K mg base ["self"] "Rows.__init__" (defScope s_Rows___init__) (He.ma K (He.ga K "Rows") "__init__") cdv A outer s H E) rfl
  exact (oss_one (os_parG rfl (oa_cons (oe_lstR 2 (idle_var 0)) (oa_cons (oe_dctR 1 (idle_var 0)) oa_nil)) (ogs_cons (og_fld T.c_Rows T.n_Rows_listed (oe_var 0)) (ogs_cons (og_fld T.c_Rows T.n_Rows_found (oe_var 0)) ogs_nil))))
theorem sc_is_text : FnScope ["text"] ["text"] (defScope s_is_text) := ⟨rfl, rfl, rfl, by decide +kernel, rfl, by decide +kernel, by decide +kernel⟩
theorem g_is_text (T : Tp K mg) : GF P w K mg base "is_text" (defArgs s_is_text) ["text"] 3 m_is_text := by
  obtain ⟨fd, F⟩ := T.d_is_text
  refine ⟨T.g_is_text, F.kp, fd, ?_, FunD.bindsN F (fun _ _ _ _ _ _ us hl => match us, hl with | [_], _ => rfl), Mir.FunD.hasPar F, Mir.FunD.at_ F⟩
  refine fn_ok (k := 2) F sc_is_text rfl fun cdv A outer s H E hr => ?_
  have nd := sc_is_text.nd
  have tk := takes_of (X := cxOf (L2.CX P w) P w K mg base ["text"] "is_text" (defScope s_is_text) (He.ga K "is_text") cdv A outer s H E) rfl rfl rfl rfl
  have po := passes_of (X := cxOf (L2.CX P w) P w K mg base ["text"] "is_text" (defScope s_is_text) (He.ga K "is_text") cdv A outer s H E) rfl
  exact (oss_one (os_ret (oe_and (oe_isi T.isi T.f_isinstance (oe_var 0) (oe_bT T.f_str)) (oe_and (oe_le (oe_len T.f_len (oe_var 0)) (oe_gV T.v_MOST_SIGNS)) (oe_one (oe_notN (oe_fn (g_read_into T) hr (by decide) tk (oa_cons (oe_makeR 2 (g_Rows___init__ T) hr (by decide) tk) (oa_cons (oe_var 0) oa_nil)))))))))
theorem sc_Term___init__ : FnScope ["self", "text"] ["self", "text"] (defScope s_Term___init__) := ⟨rfl, rfl, rfl, by decide +kernel, rfl, by decide +kernel, by decide +kernel⟩
theorem g_Term___init__ (T : Tp K mg) : GC P w K mg base "Term" (defArgs s_Term___init__) ["self", "text"] 4 m_Term___init__ := by
  obtain ⟨fd, F⟩ := T.d_Term___init__
  refine ⟨T.g_Term, T.mk_Term, fd, ?_, FunD.bindsN F (fun _ _ _ _ _ _ us hl => match us, hl with | [_, _], _ => rfl), Mir.FunD.hasPar F⟩
  refine fn_ok (k := 3) F sc_Term___init__ rfl fun cdv A outer s H E hr => ?_
  have nd := sc_Term___init__.nd
  have tk := takes_of (X := cxOf (L2.CX P w) P w K mg base ["self", "text"] "Term.__init__" (defScope s_Term___init__) (He.ma K (He.ga K "Term") "__init__") cdv A outer s H E) rfl rfl rfl rfl
  have po := passes_of (X := cxOf (L2.CX P w) P w K mg base ["self", "text"] "Term.__init__" (defScope s_Term___init__) (He.ma K (He.ga K "Term") "__init__") cdv A outer s H E) rfl
  exact (oss_cons (os_if (ot_not (ot_val (oe_fn (g_is_text T) hr (by decide) tk (oa_cons (oe_var 1) oa_nil)))) (oss_one (os_raise (x_InvalidText T) hr (by decide) rfl tk (oa_cons (oe_var 1) oa_nil))) oss_nil) (oss_one (os_asg (oe_var 1) (og_fld T.c_Term T.n_Term_told (oe_var 0)))))
theorem sc_Term___repr__ : FnScope ["self"] ["self"] (defScope s_Term___repr__) := ⟨rfl, rfl, rfl, by decide +kernel, rfl, by decide +kernel, by decide +kernel⟩
theorem gw_Term (T : Tp K mg) : GW P w K mg base "Term" m_Term___repr__ := by
  obtain ⟨fd, F⟩ := T.d_Term___repr__
  refine ⟨T.c_Term, T.me_Term___repr__, fd, ["self"], fn_okW F sc_Term___repr__ rfl fun cdv A outer s H E => ?_, FunD.bindsN F (fun _ _ _ _ _ _ us hl => match us, hl with | [_], _ => rfl)⟩
  have nd := sc_Term___repr__.nd
  exact (oss_one (os_ret (oe_fstr (oj_txt (oj_fmt (oe_fld T.c_Term T.n_Term_told (oe_var 0)) oj_nil)))))
theorem rp (T : Tp K mg) : ∀ c m, rT.lookup c = some m → GW P w K mg base c m := by
  intro c m h
  unfold rT at h
  rw [List.lookup_cons] at h
  by_cases eTerm : (c == ("Term" : Str)) = true
  · rw [eTerm] at h
    cases h
    rw [beq_iff_eq.mp eTerm]
    exact gw_Term T
  rw [Bool.not_eq_true] at eTerm
  rw [eTerm] at h
  dsimp only at h
  cases h
theorem sc_Term_text : FnScope ["self"] ["self"] (defScope s_Term_text) := ⟨rfl, rfl, rfl, by decide +kernel, rfl, by decide +kernel, by decide +kernel⟩
theorem g_Term_text (T : Tp K mg) : GP P w K mg base "Term" "text" 1 m_Term_text := by
  obtain ⟨fd, F⟩ := T.d_Term_text
  refine ⟨T.c_Term, _, _, fd, ["self"], T.pr_Term_text, ?_, FunD.bindsN F (fun _ _ _ _ _ _ us hl => match us, hl with | [_], _ => rfl)⟩
  refine fn_ok (k := 0) F sc_Term_text rfl fun cdv A outer s H E hr => ?_
  have nd := sc_Term_text.nd
  have tk := takes_of (X := cxOf (L2.CX P w) P w K mg base ["self"] "Term.text" (defScope s_Term_text) (pg K "Term" "text") cdv A outer s H E) rfl rfl rfl rfl
  have po := passes_of (X := cxOf (L2.CX P w) P w K mg base ["self"] "Term.text" (defScope s_Term_text) (pg K "Term" "text") cdv A outer s H E) rfl
  exact (oss_one (os_ret (oe_fld T.c_Term T.n_Term_told (oe_var 0))))
theorem sc__law_told : FnScope ["_law_text", "e", "_law_made"] ["_law_text"] (defScope s__law_told) := ⟨rfl, rfl, rfl, by decide +kernel, rfl, by decide +kernel, by decide +kernel⟩
theorem g__law_told (T : Tp K mg) : GF P w K mg base "_law_told" (defArgs s__law_told) ["_law_text"] 6 m__law_told := by
  obtain ⟨fd, F⟩ := T.d__law_told
  refine ⟨T.g__law_told, F.kp, fd, ?_, FunD.bindsN F (fun _ _ _ _ _ _ us hl => match us, hl with | [_], _ => rfl), Mir.FunD.hasPar F, Mir.FunD.at_ F⟩
  refine fn_ok (k := 5) F sc__law_told rfl fun cdv A outer s H E hr => ?_
  have nd := sc__law_told.nd
  have tk := takes_of (X := cxOf (L2.CX P w) P w K mg base ["_law_text", "e", "_law_made"] "_law_told" (defScope s__law_told) (He.ga K "_law_told") cdv A outer s H E) rfl rfl rfl rfl
  have po := passes_of (X := cxOf (L2.CX P w) P w K mg base ["_law_text", "e", "_law_made"] "_law_told" (defScope s__law_told) (He.ga K "_law_told") cdv A outer s H E) rfl
  exact (oss_cons (os_try T.sb rfl rfl tk (fun _ _ _ tk po => (oss_one (os_set (i := 2) nd (oe_make false (g_Term___init__ T) hr (by decide) tk (oa_cons (oe_var 0) oa_nil))))) (.as_ ⟨rfl, by decide, .inl T.g_InvalidText⟩ nd rfl rfl (ox_ret (oex_if (otx_w (owx_and (otx_val (oex_isi T.xk_InvalidText.ex T.kb_InvalidText_WrongValue rfl (by first | exact Or.inl rfl | exact Or.inr (Or.inl rfl) | exact Or.inr (Or.inr rfl)) T.f_isinstance T.g_WrongValue)) (owx_and1 (otx_eqU hr (oex_reprA hr (by decide) (rp T) T.f_repr (oex_fld T.xk_InvalidText.xf T.xn_InvalidText_given rfl (by first | exact Or.inl rfl | exact Or.inr (Or.inl rfl) | exact Or.inr (Or.inr rfl)))) (oex_reprA hr (by decide) (rp T) T.f_repr (oex_of fun _ _ _ => (oe_var 0))))))) (oex_of fun _ _ _ => oe_bl) (oex_of fun _ _ _ => oe_non))) .nil)) (oss_one (os_ret (oe_eq hr.r (oe_prop (g_Term_text T) hr (by decide) (oe_var 2)) (oe_var 0)))))
theorem sc__law_is_term : FnScope ["_law_text", "_law_letter", "_law_turn", "_law_later", "_law_old"] ["_law_text"] (defScope s__law_is_term) := ⟨rfl, rfl, rfl, by decide +kernel, rfl, by decide +kernel, by decide +kernel⟩
theorem g__law_is_term (T : Tp K mg) : GF P w K mg base "_law_is_term" (defArgs s__law_is_term) ["_law_text"] 1 m__law_is_term := by
  obtain ⟨fd, F⟩ := T.d__law_is_term
  refine ⟨T.g__law_is_term, F.kp, fd, ?_, FunD.bindsN F (fun _ _ _ _ _ _ us hl => match us, hl with | [_], _ => rfl), Mir.FunD.hasPar F, Mir.FunD.at_ F⟩
  refine fn_okT (k := 0) F sc__law_is_term rfl fun cdv A outer s H E hr => ?_
  have nd := sc__law_is_term.nd
  have tk := takes_of (X := cxOf (L2.CX P w) P w K mg base ["_law_text", "_law_letter", "_law_turn", "_law_later", "_law_old"] "_law_is_term" (defScope s__law_is_term) (He.ga K "_law_is_term") cdv A outer s H E) rfl rfl rfl rfl
  have po := passes_of (X := cxOf (L2.CX P w) P w K mg base ["_law_text", "_law_letter", "_law_turn", "_law_later", "_law_old"] "_law_is_term" (defScope s__law_is_term) (He.ga K "_law_is_term") cdv A outer s H E) rfl
  exact (osst_cons (OST.of (os_if (ot_w (ow_or (ot_gt (oe_len T.f_len (oe_var 0)) oe_int) (ow_or1 (ot_in2 hr.r oe_str (oe_var 0))))) (oss_one (os_ret oe_bl)) oss_nil)) (osst_cons (ost_forLit (ys := [[120], [121], [122], [48], [49]]) (z := [88]) po rfl nd) (osst_cons (OST.of (os_for po rfl (oi_range1 T.f_range oe_int) (og_name nd) (oss_asgT nd (oe_var 0) (osst_cons (ost_forLit (ys := [[99, 40, 88, 41], [105, 40, 88, 41], [110, 40, 88, 41], [40, 88, 32, 38, 32, 88, 41], [40, 88, 32, 124, 32, 88, 41]]) (z := [88]) po rfl nd) (osst_cons (OST.of (os_if (ot_eq hr.r (oe_var 3) (oe_var 0)) (oss_one os_break) oss_nil)) (osst_one (OST.of (os_set (i := 0) nd (oe_var 3))))))))) (osst_one (OST.of (os_ret (oe_eq hr.r (oe_var 0) oe_str)))))))
theorem sc__law_long : FnScope ["_law_urn", "_law_text", "_law_turn"] ["_law_urn"] (defScope s__law_long) := ⟨rfl, rfl, rfl, by decide +kernel, rfl, by decide +kernel, by decide +kernel⟩
theorem g__law_long (T : Tp K mg) : GF P w K mg base "_law_long" (defArgs s__law_long) ["_law_urn"] 3 m__law_long := by
  obtain ⟨fd, F⟩ := T.d__law_long
  refine ⟨T.g__law_long, F.kp, fd, ?_, FunD.bindsN F (fun _ _ _ _ _ _ us hl => match us, hl with | [_], _ => rfl), Mir.FunD.hasPar F, Mir.FunD.at_ F⟩
  refine fn_ok (k := 2) F sc__law_long rfl fun cdv A outer s H E hr => ?_
  have nd := sc__law_long.nd
  have tk := takes_of (X := cxOf (L2.CX P w) P w K mg base ["_law_urn", "_law_text", "_law_turn"] "_law_long" (defScope s__law_long) (He.ga K "_law_long") cdv A outer s H E) rfl rfl rfl rfl
  have po := passes_of (X := cxOf (L2.CX P w) P w K mg base ["_law_urn", "_law_text", "_law_turn"] "_law_long" (defScope s__law_long) (He.ga K "_law_long") cdv A outer s H E) rfl
  exact (oss_cons (os_set (i := 1) nd (oe_fn (g__law_pick T) hr (by decide) tk (oa_cons (oe_var 0) (oa_cons (oe_lst (oa_cons oe_str (oa_cons oe_str (oa_cons oe_str oa_nil)))) oa_nil)))) (oss_cons (os_for po rfl (oi_range1 T.f_range oe_int) (og_name nd) (oss_one (os_if (ot_lt (oe_len T.f_len (oe_var 1)) oe_int) (oss_one (os_set (i := 1) nd (oe_fn (g__law_pick T) hr (by decide) tk (oa_cons (oe_var 0) (oa_cons (oe_lst (oa_cons (oe_add (oe_add oe_str (oe_var 1)) oe_str) (oa_cons (oe_add (oe_add oe_str (oe_var 1)) oe_str) (oa_cons (oe_add (oe_add oe_str (oe_var 1)) oe_str) (oa_cons (oe_add (oe_add oe_str (oe_var 1)) oe_str) oa_nil))))) oa_nil))))) oss_nil))) (oss_one (os_ret (oe_fn (g__law_pick T) hr (by decide) tk (oa_cons (oe_var 0) (oa_cons (oe_lst (oa_cons (oe_add (oe_add oe_str (oe_var 1)) oe_str) (oa_cons (oe_add (oe_add oe_str (oe_var 1)) oe_str) (oa_cons (oe_add (oe_add oe_str (oe_var 1)) oe_str) (oa_cons (oe_add (oe_add oe_str (oe_var 1)) oe_str) oa_nil))))) oa_nil)))))))
theorem sc__law_right : FnScope ["_law_urn", "_law_turn", "_law_text", "_law_most", "_law_odd", "_law_near"] ["_law_urn"] (defScope s__law_right) := ⟨rfl, rfl, rfl, by decide +kernel, rfl, by decide +kernel, by decide +kernel⟩
theorem g__law_right (T : Tp K mg) : GF P w K mg base "_law_right" (defArgs s__law_right) ["_law_urn"] 18 m__law_right := by
  obtain ⟨fd, F⟩ := T.d__law_right
  refine ⟨T.g__law_right, F.kp, fd, ?_, FunD.bindsN F (fun _ _ _ _ _ _ us hl => match us, hl with | [_], _ => rfl), Mir.FunD.hasPar F, Mir.FunD.at_ F⟩
  refine fn_ok (k := 17) F sc__law_right rfl fun cdv A outer s H E hr => ?_
  have nd := sc__law_right.nd
  have tk := takes_of (X := cxOf (L2.CX P w) P w K mg base ["_law_urn", "_law_turn", "_law_text", "_law_most", "_law_odd", "_law_near"] "_law_right" (defScope s__law_right) (He.ga K "_law_right") cdv A outer s H E) rfl rfl rfl rfl
  have po := passes_of (X := cxOf (L2.CX P w) P w K mg base ["_law_urn", "_law_turn", "_law_text", "_law_most", "_law_odd", "_law_near"] "_law_right" (defScope s__law_right) (He.ga K "_law_right") cdv A outer s H E) rfl
  exact (oss_cons (os_for po rfl (oi_range1 T.f_range oe_int) (og_name nd) (oss_cons (os_set (i := 2) nd (oe_fn (g__law_term_text T 16) hr (by decide) tk (oa_cons (oe_fn (g__law_drawn_term T 7) hr (by decide) tk (oa_cons (oe_var 0) (oa_cons (oe_fn (g__law_ladle T) hr (by decide) tk (oa_cons (oe_var 0) (oa_cons oe_int oa_nil))) (oa_cons (oe_lst (oa_cons oe_str (oa_cons oe_str (oa_cons oe_str oa_nil)))) oa_nil)))) oa_nil))) (oss_cons (os_set (i := 5) nd (oe_fn (g__law_bent_text T) hr (by decide) tk (oa_cons (oe_var 0) (oa_cons (oe_var 2) oa_nil)))) (oss_cons (os_if (ot_w (ow_or (ot_isNot (oe_fn (g__law_told T) hr (by decide) tk (oa_cons (oe_var 2) oa_nil)) oe_bl) (ow_or1 (ot_ne hr.r (oe_reprA hr (by decide) (rp T) T.f_repr (oe_fn (g__law_told T) hr (by decide) tk (oa_cons (oe_var 5) oa_nil))) (oe_reprA hr (by decide) (rp T) T.f_repr (oe_fn (g__law_is_term T) hr (by decide) tk (oa_cons (oe_var 5) oa_nil))))))) (oss_one (os_ret oe_bl)) oss_nil) (oss_cons (os_set (i := 5) nd (oe_fn (g__law_bent_text T) hr (by decide) tk (oa_cons (oe_var 0) (oa_cons (oe_var 5) oa_nil)))) (oss_one (os_if (ot_ne hr.r (oe_reprA hr (by decide) (rp T) T.f_repr (oe_fn (g__law_told T) hr (by decide) tk (oa_cons (oe_var 5) oa_nil))) (oe_reprA hr (by decide) (rp T) T.f_repr (oe_fn (g__law_is_term T) hr (by decide) tk (oa_cons (oe_var 5) oa_nil)))) (oss_one (os_ret oe_bl)) oss_nil))))))) (oss_cons (os_set (i := 2) nd (oe_fn (g__law_long T) hr (by decide) tk (oa_cons (oe_var 0) oa_nil))) (oss_cons (os_if (ot_ne hr.r (oe_reprA hr (by decide) (rp T) T.f_repr (oe_fn (g__law_told T) hr (by decide) tk (oa_cons (oe_var 2) oa_nil))) (oe_reprA hr (by decide) (rp T) T.f_repr (oe_fn (g__law_is_term T) hr (by decide) tk (oa_cons (oe_var 2) oa_nil)))) (oss_one (os_ret oe_bl)) oss_nil) (oss_cons (os_set (i := 3) nd (oe_add (oe_add (oe_mulS oe_str oe_int) oe_str) (oe_mulS oe_str oe_int))) (oss_cons (os_if (ot_ne hr.r (oe_lst (oa_cons (oe_len T.f_len (oe_var 3)) (oa_cons (oe_fn (g__law_told T) hr (by decide) tk (oa_cons (oe_var 3) oa_nil)) (oa_cons (oe_fn (g__law_told T) hr (by decide) tk (oa_cons (oe_add (oe_add oe_str (oe_var 3)) oe_str) oa_nil)) (oa_cons (oe_fn (g__law_told T) hr (by decide) tk (oa_cons (oe_slice (oe_var 3) (oo_some oe_int) oo_none) oa_nil)) oa_nil))))) (oe_lst (oa_cons oe_int (oa_cons oe_bl (oa_cons oe_bl (oa_cons oe_bl oa_nil)))))) (oss_one (os_ret oe_bl)) oss_nil) (oss_cons (os_set (i := 4) nd (oe_fn (g__law_pick T) hr (by decide) tk (oa_cons (oe_var 0) (oa_cons (oe_lst (oa_cons oe_non (oa_cons oe_int (oa_cons oe_bl (oa_cons (oe_tup (oa_cons oe_str oa_nil)) (oa_cons (oe_lst (oa_cons oe_str oa_nil)) (oa_cons oe_dct0 (oa_cons (oe_make false (g_Term___init__ T) hr (by decide) tk (oa_cons oe_str oa_nil)) (oa_cons (oe_pow oe_int oe_int) (oa_cons (oe_tup oa_nil) oa_nil)))))))))) oa_nil)))) (oss_one (os_ret (oe_and (oe_is (oe_fn (g__law_told T) hr (by decide) tk (oa_cons (oe_var 3) oa_nil)) oe_bl) (oe_one (oe_is (oe_fn (g__law_told T) hr (by decide) tk (oa_cons (oe_var 4) oa_nil)) oe_bl)))))))))))
theorem sc__law_urn_of : FnScope ["_law_script", "_law_turn", "_law_cell", "_law_mixed", "_law_at", "_law_each"] ["_law_script", "_law_turn"] (defScope s__law_urn_of) := ⟨rfl, rfl, rfl, by decide +kernel, rfl, by decide +kernel, by decide +kernel⟩
theorem g__law_urn_of (T : Tp K mg) : GF P w K mg base "_law_urn_of" (defArgs s__law_urn_of) ["_law_script", "_law_turn"] 1 m__law_urn_of := by
  obtain ⟨fd, F⟩ := T.d__law_urn_of
  refine ⟨T.g__law_urn_of, F.kp, fd, ?_, FunD.bindsN F (fun _ _ _ _ _ _ us hl => match us, hl with | [_, _], _ => rfl), Mir.FunD.hasPar F, Mir.FunD.at_ F⟩
  refine fn_okK (k := 0) F sc__law_urn_of rfl fun cdv A outer s H E hr => ?_
  have nd := sc__law_urn_of.nd
  have tk := takes_of (X := cxOf (L2.CX P w) P w K mg base ["_law_script", "_law_turn", "_law_cell", "_law_mixed", "_law_at", "_law_each"] "_law_urn_of" (defScope s__law_urn_of) (He.ga K "_law_urn_of") cdv A outer s H E) rfl rfl rfl rfl
  have po := passes_of (X := cxOf (L2.CX P w) P w K mg base ["_law_script", "_law_turn", "_law_cell", "_law_mixed", "_law_at", "_law_each"] "_law_urn_of" (defScope s__law_urn_of) (He.ga K "_law_urn_of") cdv A outer s H E) rfl
  exact (oss_cons (os_par (i := 2) (j := 3) rfl nd (oa_cons (oe_if (ot_lt (oe_var 1) (oe_len T.f_len (oe_var 0))) (oe_it (oe_var 0) (oe_var 1)) oe_int) (oa_cons (oe_add oe_int (oe_mul oe_int (oe_var 1))) oa_nil))) (oss_cons (os_for po rfl (oi_enum T.f_enumerate (oe_slice (oe_var 0) oo_none (oo_some oe_int))) (og_tup rfl (ogs_cons (og_name nd) (ogs_cons (og_name nd) ogs_nil))) (oss_one (os_set (i := 3) nd (oe_mod (oe_intC T.f_int (oe_add (oe_mul (oe_var 3) (oe_add oe_int (oe_mul oe_int (oe_var 4)))) (oe_mul oe_int (oe_var 5)))) oe_int)))) (oss_one (os_ret (oe_lstC (oa_cons (oe_if (ot_w (ow_or (ot_lt (oe_var 2) oe_int) (ow_or1 (ot_ge (oe_var 2) (oe_pow oe_int oe_int))))) (oe_abs T.f_abs (oe_var 2)) oe_int) (oa_cons (oe_mod (oe_intC T.f_int (oe_add (oe_var 3) (oe_mul oe_int (oe_var 2)))) oe_int) (oa_cons oe_int oa_nil))))))))
theorem sc_law : FnScope ["_law_script", "_law_turn"] ["_law_script"] (defScope s_law) := ⟨rfl, rfl, rfl, by decide +kernel, rfl, by decide +kernel, by decide +kernel⟩
theorem g_law (T : Tp K mg) : GF P w K mg base "law" (defArgs s_law) ["_law_script"] 19 m_law := by
  obtain ⟨fd, F⟩ := T.d_law
  refine ⟨T.g_law, F.kp, fd, ?_, FunD.bindsN F (fun _ _ _ _ _ _ us hl => match us, hl with | [_], _ => rfl), Mir.FunD.hasPar F, Mir.FunD.at_ F⟩
  refine fn_ok (k := 18) F sc_law rfl fun cdv A outer s H E hr => ?_
  have nd := sc_law.nd
  have tk := takes_of (X := cxOf (L2.CX P w) P w K mg base ["_law_script", "_law_turn"] "law" (defScope s_law) (He.ga K "law") cdv A outer s H E) rfl rfl rfl rfl
  have po := passes_of (X := cxOf (L2.CX P w) P w K mg base ["_law_script", "_law_turn"] "law" (defScope s_law) (He.ga K "law") cdv A outer s H E) rfl
  exact (oss_one (os_ret (oe_all rfl T.f_all (oe_lc rfl nd (oi_range1 T.f_range (oe_max2 rfl T.f_max oe_int (oe_min2 rfl T.f_min (oe_len T.f_len (oe_var 0)) oe_int))) (own := [("_law_turn", 1)]) (blkOk_by rfl) (by decide) (fun _ _ _ _ _ => (og_name nd)) (fun _ _ _ _ _ => ots_nil) (fun _ _ _ _ _ => (oe_fn (g__law_right T) hr (by decide) Mir.takes0 (oa_cons (oe_fn (g__law_urn_of T) hr (by decide) Mir.takes0 (oa_cons (oe_var 0) (oa_cons (oe_var 1) oa_nil))) oa_nil)))))))
end
theorem tp_of {K : PySem.W.Frag} {h : Heap} {mg : Str → Option Value} (X : K.In h) (G : h.Ns mainGlobals mg) (c : SaysM ck fns K) : Tp K mg := by
  have h0 := c.chk
  obtain ⟨a0, h1⟩ := He.ba h0
  obtain ⟨a1, h2⟩ := He.ba h1
  obtain ⟨a2, h3⟩ := He.ba h2
  obtain ⟨a3, h4⟩ := He.ba h3
  obtain ⟨a4, h5⟩ := He.ba h4
  obtain ⟨a5, h6⟩ := He.ba h5
  obtain ⟨a6, h7⟩ := He.ba h6
  obtain ⟨a7, h8⟩ := He.ba h7
  obtain ⟨a8, h9⟩ := He.ba h8
  obtain ⟨a9, h10⟩ := He.ba h9
  obtain ⟨a10, h11⟩ := He.ba h10
  obtain ⟨a11, h12⟩ := He.ba h11
  obtain ⟨a12, h13⟩ := He.ba h12
  obtain ⟨a13, h14⟩ := He.ba h13
  obtain ⟨a14, h15⟩ := He.ba h14
  obtain ⟨a15, h16⟩ := He.ba h15
  obtain ⟨a16, h17⟩ := He.ba h16
  obtain ⟨a17, h18⟩ := He.ba h17
  obtain ⟨a18, h19⟩ := He.ba h18
  obtain ⟨a19, h20⟩ := He.ba h19
  obtain ⟨a20, h21⟩ := He.ba h20
  obtain ⟨a21, h22⟩ := He.ba h21
  obtain ⟨a22, h23⟩ := He.ba h22
  obtain ⟨a23, h24⟩ := He.ba h23
  obtain ⟨a24, h25⟩ := He.ba h24
  obtain ⟨a25, h26⟩ := He.ba h25
  obtain ⟨a26, h27⟩ := He.ba h26
  obtain ⟨a27, h28⟩ := He.ba h27
  obtain ⟨a28, h29⟩ := He.ba h28
  obtain ⟨a29, h30⟩ := He.ba h29
  obtain ⟨a30, h31⟩ := He.ba h30
  obtain ⟨a31, h32⟩ := He.ba h31
  obtain ⟨a32, h33⟩ := He.ba h32
  obtain ⟨a33, h34⟩ := He.ba h33
  obtain ⟨a34, h35⟩ := He.ba h34
  obtain ⟨a35, h36⟩ := He.ba h35
  obtain ⟨a36, h37⟩ := He.ba h36
  obtain ⟨a37, h38⟩ := He.ba h37
  obtain ⟨a38, h39⟩ := He.ba h38
  obtain ⟨a39, h40⟩ := He.ba h39
  obtain ⟨a40, h41⟩ := He.ba h40
  obtain ⟨a41, h42⟩ := He.ba h41
  obtain ⟨a42, h43⟩ := He.ba h42
  obtain ⟨a43, h44⟩ := He.ba h43
  obtain ⟨a44, h45⟩ := He.ba h44
  obtain ⟨a45, h46⟩ := He.ba h45
  obtain ⟨a46, h47⟩ := He.ba h46
  have a47 := h47
  exact ⟨He.free_ok X G a0, He.free_ok X G a1, He.free_ok X G a2, He.free_ok X G a3, He.free_ok X G a4, He.free_ok X G a5, He.free_ok X G a6, He.free_ok X G a7, He.free_ok X G a8, He.free_ok X G a9, He.free_ok X G a10, He.free_ok X G a11, gloB_ok X G a12, gloB_ok X G a13, gloB_ok X G a14, He.glo_ok X G a15, He.glo_ok X G a16, He.glo_ok X G a17, He.glo_ok X G a18, He.glo_ok X G a19, He.glo_ok X G a20, He.glo_ok X G a21, He.glo_ok X G a22, He.glo_ok X G a23, He.glo_ok X G a24, He.glo_ok X G a25, He.glo_ok X G a26, He.glo_ok X G a27, He.glo_ok X G a28, He.glo_ok X G a29, He.glo_ok X G a30, He.glo_ok X G a31, He.cls_ok a32, He.cls_ok a33, He.noat_ok a34, He.noat_ok a35, He.noat_ok a36, exkB_ok a37, exiB_ok a38, exnB_ok a39, kitcB_ok a40, sbB_ok a41, He.meth_ok a42, He.mkr_ok a43, He.mkr_ok a44, He.meth_ok a45, propB_ok a46, isiB_ok a47, c.def_ 0, c.def_ 1, c.def_ 2, c.def_ 3, c.def_ 4, c.def_ 5, c.def_ 6, c.def_ 7, c.def_ 8, c.def_ 9, c.def_ 10, c.def_ 11, c.def_ 12, c.def_ 13, c.def_ 14, c.def_ 15, c.def_ 16, c.def_ 17, c.def_ 18⟩
theorem ob_eq (s : PySem.W.SharedT) : ob s = hk.obs s.abs := obsMG_eq (HandSHeadRun.getT_eq s)
end Law

section
namespace Law
open PySem PySem.Spec PyProof.Rows L2 Mir
section
open HandSHeadRun PySem.W PySem.Calls
end
end Law
open PySem PySem.W PySem.Calls PyProof.Rows
theorem law_of (hm : ∀ ns : List Int, ns.length ≤ 63 → ∃ S', Law.m_law [.p (.scr (ns.map Mir.P.int))] [] = .ok (.p (.bl true)) S') : PySem.Challenge.rw_closedinner_k03_whole_texts_of_terms.Holds := by
  w_on; o_law
  refine HandSHeadRun.head_any (r := OpenLaw.row PySem.Challenge.rw_closedinner_k03_whole_texts_of_terms) (q := view (OpenLaw.row PySem.Challenge.rw_closedinner_k03_whole_texts_of_terms).prog [23]) (H := Law.hk) (ob := Law.ob) (M := 5000) (loose := Law.loose) (d := HandSHeadRun.topDef (OpenLaw.row PySem.Challenge.rw_closedinner_k03_whole_texts_of_terms).prog 23) (kwd := []) Law.ob_eq
    (by kernel_rfl) (fun s => by kernel_rfl) Law.run (by kernel_rfl) (by kernel_rfl) (by kernel_rfl) (by rfl) (by first | assumption | decide +kernel) (by decide +kernel) ⟨rfl, rfl, rfl, rfl, rfl, by decide +kernel⟩ ?hw ?hc
  case hw => w_witness2
  case hc =>
    refine Mir.walkG (l := PySem.Challenge.rw_closedinner_k03_whole_texts_of_terms) (n := 63) (k := 19) (x := "_law_script") (m := Law.m_law) rfl (by decide) (by kernel_rfl) ⟨⟨rfl, by decide, by decide⟩, rfl⟩ ?F hm
    intro w mg fa h Y G hmg0
    obtain ⟨K, KX, c⟩ := Y
    have T := Law.tp_of KX G c
    have hmg : mg ("law" : PySem.Str) = some (.ref fa) := by
      have e : (HandSHeadRun.topDef (OpenLaw.row PySem.Challenge.rw_closedinner_k03_whole_texts_of_terms).prog 23).name = ("law" : PySem.Str) := by kernel_rfl
      rw [← e]
      exact hmg0
    have e := hmg.symm.trans T.g_law
    cases e
    obtain ⟨fd, F⟩ := T.d_law
    have b := L2.FunD.bindsA (ps := ["_law_script"]) F fun _ _ _ _ _ _ us hl => match us, hl with | [_], _ => rfl
    refine ⟨K, fd, KX, fun s v => b s [v] rfl, fun base _ _ => ?_⟩
    obtain ⟨fd', F', _, _, hp⟩ := (Law.g_law (P := (PySem.Challenge.rw_closedinner_k03_whole_texts_of_terms).prog) (w := w) (base := base) T).fn
    have e2 := (Mir.FunD.at_ F).symm.trans hp
    cases e2
    exact F'
end

namespace Pl
def row (rows : List (List Nat)) (k : Nat) : List Nat := rows.getD k []
theorem row_set_self {rows : List (List Nat)} {k : Nat} {l : List Nat} (h : k < rows.length) : row (rows.set k l) k = l := by
  unfold row
  rw [List.getD_eq_getElem?_getD, List.getElem?_set_self h]
  rfl
theorem row_set_ne {rows : List (List Nat)} {k j : Nat} {l : List Nat} (h : k ≠ j) : row (rows.set k l) j = row rows j := by
  unfold row
  rw [List.getD_eq_getElem?_getD, List.getElem?_set_ne h, List.getD_eq_getElem?_getD]
def Sub (n : Nat) (a b : List (List Nat)) : Prop := ∀ i, i < n → ∀ e ∈ row a i, e ∈ row b i
theorem Sub.refl {n : Nat} {a : List (List Nat)} : Sub n a a := fun _ _ _ h => h
theorem Sub.trans {n : Nat} {a b c : List (List Nat)} (h : Sub n a b) (h' : Sub n b c) : Sub n a c := fun i hi e he => h' i hi e (h i hi e he)
section
variable {n : Nat} {rows : List (List Nat)} {T : Nat → Nat → Prop}
end
def B (r : Nat → Nat → Bool) (n : Nat) : Nat → Nat → Nat → Bool
  | 0, i, m => i == m
  | t + 1, i, m => (List.range n).any fun a => B r n t i a && r a m
section
variable {r : Nat → Nat → Bool} {n : Nat}
end
end Pl
namespace Pl
theorem nodup_len : ∀ (n : Nat) (l : List Nat), l.Nodup → (∀ e ∈ l, e < n) → l.length ≤ n
  | 0, l, _, h => by
    cases l with
    | nil => exact Nat.le_refl _
    | cons a l => exact absurd (h a List.mem_cons_self) (by omega)
  | n + 1, l, nd, h => by
    by_cases q : n ∈ l
    · have ih := nodup_len n (l.erase n) (nd.erase n) fun e he => by
        have := (nd.mem_erase_iff).mp he
        have h2 := h e this.2
        have h3 := this.1
        omega
      rw [List.length_erase_of_mem q] at ih
      have : 0 < l.length := List.length_pos_of_mem q
      omega
    · have ih := nodup_len n l nd fun e he => by
        have h2 := h e he
        have : e ≠ n := fun z => q (by rw [← z]; exact he)
        omega
      omega
end Pl

namespace Mir
open L2
@[simp] theorem bind_ok {A B : Type} (a : A) (S : Sto) (f : A → Sto → Res B) : (Res.ok a S).bind f = f a S := rfl
@[simp] theorem bind_bad {A B : Type} (f : A → Sto → Res B) : (Res.bad : Res A).bind f = .bad := rfl
@[simp] theorem go_ok {A : Type} (a : A) (S : Sto) (ρ : En) (f : A → Sto → RF) : (Res.ok a S).go ρ f = f a S := rfl
@[simp] theorem nox_ok {A : Type} (a : A) (S : Sto) : (Res.ok a S).nox = .ok a S := rfl
@[simp] theorem thn_nx (ρ : En) (S : Sto) (b : MS) : (RF.ok (.nx ρ) S).thn b = b ρ S := rfl
@[simp] theorem thn_rt (d : Vl) (S : Sto) (b : MS) : (RF.ok (.rt d) S).thn b = .ok (.rt d) S := rfl
@[simp] theorem rd_p (S : Sto) (x : P) : rd S (.p x) = some x := rfl
@[simp] theorem nv_p (S : Sto) (x : P) : nv S (.p x) = .p x := rfl
theorem rd_lst {S : Sto} {k : Nat} {xs : List P} (h : S[k]? = some (.lst xs)) : rd S (.c k) = some (.lst xs) := by
  unfold rd
  dsimp only
  rw [h]
theorem nv_lst {S : Sto} {k : Nat} {xs : List P} (h : S[k]? = some (.lst xs)) : nv S (.c k) = .c k := by
  unfold nv
  dsimp only
  rw [h]
theorem nv_lsv {S : Sto} {k : Nat} {xs : List Vl} (h : S[k]? = some (.lsv xs)) : nv S (.c k) = .c k := by
  unfold nv
  dsimp only
  rw [h]
theorem rd_fz {S : Sto} {k : Nat} {x : P} (h : S[k]? = some (.fz x)) : rd S (.c k) = some x := by
  unfold rd
  dsimp only
  rw [h]
theorem nv_fz {S : Sto} {k : Nat} {x : P} (h : S[k]? = some (.fz x)) : nv S (.c k) = .p x := by
  unfold nv
  dsimp only
  rw [h]
def ofO (o : Option P) (S : Sto) : Res Vl := match o with
  | some z => .ok (.p z) S
  | none => .bad
@[simp] theorem ofO_some (z : P) (S : Sto) : ofO (some z) S = .ok (.p z) S := rfl
@[simp] theorem op1_p (f : P → Option P) (x : P) (S : Sto) : op1 f (.p x) S = ofO (f x) S := rfl
@[simp] theorem op2_pp (f : P → P → Option P) (x y : P) (S : Sto) : op2 f (.p x) (.p y) S = ofO (f x y) S := rfl
theorem op2_rd {f : P → P → Option P} {d e : Vl} {x y : P} {S : Sto} (h1 : rd S d = some x) (h2 : rd S e = some y) : op2 f d e S = ofO (f x y) S := by
  unfold op2
  rw [h1, h2]
  rfl
theorem op1_rd {f : P → Option P} {d : Vl} {x : P} {S : Sto} (h1 : rd S d = some x) : op1 f d S = ofO (f x) S := by
  unfold op1
  rw [h1]
  rfl
@[simp] theorem rds_nil (S : Sto) : rds S [] = some [] := rfl
@[simp] theorem rds_p (S : Sto) (x : P) (ds : List Vl) : rds S (.p x :: ds) = (rds S ds).bind fun xs => some (x :: xs) := rfl
theorem rds_rd {S : Sto} {d : Vl} {x : P} {ds : List Vl} (h : rd S d = some x) : rds S (d :: ds) = (rds S ds).bind fun xs => some (x :: xs) := by
  show ((rd S d).bind fun x => (rds S ds).bind fun xs => some (x :: xs)) = _
  rw [h]
  rfl
@[simp] theorem call1_eq (f : List P → Option P) (ds : List Vl) (S : Sto) : call1 f ds S = (match rds S ds with
  | some xs => ofO (f xs) S
  | none => .bad) := rfl
section
variable (ρ : En) (S : Sto) (a b c : ME) (t u : MT) (m r : MA) (s s' : MS)
@[simp] theorem eVar_0 (d : Vl) : eVar 0 (some d :: ρ) S = .ok d S := rfl
@[simp] theorem eVar_s (i : Nat) (x : Option Vl) : eVar (i + 1) (x :: ρ) S = eVar i ρ S := by
  unfold eVar
  rw [List.getElem?_cons_succ]
@[simp] theorem eC_eq (x : P) : eC x ρ S = .ok (.p x) S := rfl
@[simp] theorem eBin_eq (f : P → P → Option P) : eBin f a b ρ S = (a ρ S).bind fun x S1 => (b ρ S1).bind fun y S2 => op2 f x y S2 := rfl
@[simp] theorem eUn_eq (f : P → Option P) : eUn f a ρ S = (a ρ S).bind fun x S1 => op1 f x S1 := rfl
@[simp] theorem eItem_eq : eItem a b ρ S = (a ρ S).bind fun d S1 => (b ρ S1).bind fun i S2 => ixV (nv S2 d) i S2 := rfl
@[simp] theorem eCall_eq (f : List P → Option P) : eCall f m ρ S = (m ρ S).bind fun ds S1 => call1 f ds S1 := rfl
@[simp] theorem eFn_eq (f : MF) : eFn f m ρ S = (m ρ S).bind f := rfl
@[simp] theorem aNil_eq : aNil ρ S = .ok [] S := rfl
@[simp] theorem aCons_eq : aCons a m ρ S = (a ρ S).bind fun x S1 => (m ρ S1).bind fun xs S2 => .ok (x :: xs) S2 := rfl
@[simp] theorem tst_bl (b : Bool) : tst (.p (.bl b)) S = .ok b S := rfl
@[simp] theorem tVal_eq : tVal a ρ S = (a ρ S).bind tst := rfl
@[simp] theorem tAnd_eq : tAndM t u ρ S = (t ρ S).bind fun x S1 => match x with
  | true => u ρ S1
  | false => .ok false S1 := rfl
@[simp] theorem tOr_eq : tOrM t u ρ S = (t ρ S).bind fun x S1 => match x with
  | true => .ok true S1
  | false => u ρ S1 := rfl
@[simp] theorem tNot_eq : tNotM t ρ S = (t ρ S).bind fun x S1 => .ok (!x) S1 := rfl
@[simp] theorem eAnd_eq : eAndM a b ρ S = (a ρ S).bind fun x S1 => (tst x S1).bind fun c S2 => match c with
  | true => b ρ S2
  | false => .ok (.p (.bl false)) S2 := rfl
@[simp] theorem eOr_eq : eOrM a b ρ S = (a ρ S).bind fun x S1 => (tst x S1).bind fun c S2 => match c with
  | true => .ok (.p (.bl true)) S2
  | false => b ρ S2 := rfl
@[simp] theorem eNot_eq : eNotM a ρ S = (a ρ S).bind fun x S1 => (tst x S1).bind fun c S2 => .ok (.p (.bl (!c))) S2 := rfl
@[simp] theorem eIf_eq : eIfM t a b ρ S = (t ρ S).bind fun x S1 => match x with
  | true => a ρ S1
  | false => b ρ S1 := rfl
@[simp] theorem eIsN_eq : eIsN a ρ S = (a ρ S).bind fun x S1 => .ok (.p (.bl (isN x))) S1 := rfl
@[simp] theorem eNotN_eq : eNotN a ρ S = (a ρ S).bind fun x S1 => .ok (.p (.bl (!isN x))) S1 := rfl
@[simp] theorem eTup_eq : eTup m ρ S = (m ρ S).bind fun xs S1 => (frzs xs S1).bind fun ys S2 => if ys.length ≤ 100000 then .ok (.p (.tup ys)) S2 else .bad := rfl
@[simp] theorem eLst_eq : eLst m ρ S = (m ρ S).bind fun xs S1 => (frzs xs S1).bind fun ys S2 => if ys.length ≤ 100000 then .ok (.p (.lst ys)) S2 else .bad := rfl
@[simp] theorem eLstC_eq : eLstC m ρ S = (m ρ S).bind fun xs S1 => (frzs xs S1).bind fun ys S2 => if ys.length ≤ 100000 then .ok (.c S2.length) (S2 ++ [.lst ys]) else .bad := rfl
@[simp] theorem frzs_nil : frzs [] S = .ok [] S := rfl
@[simp] theorem frzs_cons (d : Vl) (ds : List Vl) : frzs (d :: ds) S = (frz d S).bind fun y S1 => (frzs ds S1).bind fun ys S2 => .ok (y :: ys) S2 := rfl
@[simp] theorem eMthT_p (T : String) (f : P → List P → Option P) : eMthT T f a m ρ S = (a ρ S).bind fun d S1 => match rd S1 d with
  | some x => if tyP T x then (m ρ S1).bind fun ds S2 => call1 (fun xs => match xs with
    | x :: r => f x r
    | [] => none) (d :: ds) S2 else .bad
  | none => .bad := rfl
@[simp] theorem eMut_eq (g : Sto → Vl → Bool) (f : FM) : eMut g f a m ρ S = (a ρ S).bind fun d S1 => if g S1 d then (m ρ S1).bind fun ds S2 => f d ds S2 else .bad := rfl
@[simp] theorem sSeq_eq : sSeq s s' ρ S = (s ρ S).thn s' := rfl
@[simp] theorem sPass_eq : sPass ρ S = .ok (.nx ρ) S := rfl
@[simp] theorem sExpr_eq : sExpr a ρ S = (a ρ S).go ρ fun _ S1 => .ok (.nx ρ) S1 := rfl
@[simp] theorem sRet_eq : sRet a ρ S = (a ρ S).go ρ fun d S1 => .ok (.rt d) S1 := rfl
@[simp] theorem sIf_eq : sIf t s s' ρ S = (t ρ S).go ρ fun c S1 => match c with
  | true => s ρ S1
  | false => s' ρ S1 := rfl
@[simp] theorem sAsg_eq (g : MG) : sAsg a g ρ S = (a ρ S).go ρ fun d S1 => ((g d ρ S1).nox).go ρ fun ρ1 S2 => .ok (.nx ρ1) S2 := rfl
@[simp] theorem sPar_eq (i j : Nat) : sPar i j m ρ S = (m ρ S).go ρ fun ds S1 => match ds with
  | [d, d2] => .ok (.nx ((ρ.set i (some d)).set j (some d2))) S1
  | _ => .bad := rfl
@[simp] theorem sPar3_eq (i j l : Nat) : sPar3 i j l m ρ S = (m ρ S).go ρ fun ds S1 => match ds with
  | [d, d2, d3] => .ok (.nx (((ρ.set i (some d)).set j (some d2)).set l (some d3))) S1
  | _ => .bad := rfl
@[simp] theorem sParG_eq (n : Nat) (g : MGs) : sParG n m g ρ S = (m ρ S).go ρ fun ds S1 => if ds.length = n ∧ n ≤ 100000 then ((g ds ρ S1).nox).go ρ fun ρ1 S2 => .ok (.nx ρ1) S2 else .bad := rfl
@[simp] theorem gNm_eq (i : Nat) (d : Vl) : gNm i d ρ S = .ok (ρ.set i (some d)) S := rfl
@[simp] theorem gNl_eq : gNl [] ρ S = .ok ρ S := rfl
@[simp] theorem gCn_eq (g : MG) (r : MGs) (d : Vl) (ds : List Vl) : gCn g r (d :: ds) ρ S = (g d ρ S).nox.bind fun ρ1 S1 => r ds ρ1 S1 := rfl
@[simp] theorem gTp_eq (n : Nat) (r : MGs) (xs : List P) : gTp n r (.p (.tup xs)) ρ S = if xs.length = n then r (xs.map Vl.p) ρ S else .bad := rfl
@[simp] theorem gSub_eq (d : Vl) : gSubM a b d ρ S = (a ρ S).nox.bind fun o S1 => (b ρ S1).nox.bind fun i S2 => (setV o i d S2).bind fun _ S3 => .ok ρ S3 := rfl
@[simp] theorem gFld_eq (c f : PySem.Str) (d : Vl) : gFldM c f a d ρ S = (a ρ S).nox.bind fun o S1 => (fSet c f o d S1).bind fun _ S2 => .ok ρ S2 := rfl
@[simp] theorem sFor_eq (it : MI) (g : MG) : sFor it g s ρ S = (it ρ S).go ρ fun xs S1 => forGo g s xs ρ S1 := rfl
@[simp] theorem itOf_eq : itOf a ρ S = (a ρ S).bind fun d S1 => (frz d S1).bind fun x S2 => match itemsP x with
  | some xs => .ok xs S2
  | none => .bad := rfl
@[simp] theorem eSl_eq (l h : En → Sto → Res (Option Int)) : eSl a l h ρ S = (a ρ S).bind fun d S1 => (l ρ S1).bind fun lo S2 => (h ρ S2).bind fun hi S3 => op1 (pSl lo hi) d S3 := rfl
@[simp] theorem oNo_eq : oNo ρ S = .ok none S := rfl
@[simp] theorem oYes_eq : oYes a ρ S = (a ρ S).bind intV := rfl
@[simp] theorem intV_int (i : Int) : intV (.p (.int i)) S = .ok (some i) S := rfl
@[simp] theorem eFld_eq (c f : PySem.Str) : eFld c f a ρ S = (a ρ S).bind fun d S1 => fldV c f (nv S1 d) S1 := rfl
@[simp] theorem eProp_eq (c : PySem.Str) (f : MF) : eProp c f a ρ S = (a ρ S).bind fun d S1 => if isC c S1 (nv S1 d) then (f [d] S1).nox else .bad := rfl
@[simp] theorem eMeth_eq (c f : PySem.Str) (g : MF) : eMeth c f g a m ρ S = (a ρ S).bind fun d S1 => if isO c f S1 (nv S1 d) then (m ρ S1).bind fun ds S2 => g (d :: ds) S2 else .bad := rfl
@[simp] theorem eMake_eq (kp : Bool) (c : PySem.Str) (g : MF) : eMake kp c g m ρ S = (m ρ S).bind fun ds S1 => mkO kp c g ds S1 := rfl
end
@[simp] theorem ixV_p (x : P) (i : Vl) (S : Sto) : ixV (.p x) i S = op2 pIx (.p x) i S := by
  cases i <;> rfl
theorem ixV_lst {S : Sto} {k : Nat} {xs : List P} {j : Int} (h : S[k]? = some (.lst xs)) : ixV (.c k) (.p (.int j)) S = ofO (atI xs j) S := by
  unfold ixV
  dsimp only
  rw [h]
  show op2 pIx (.c k) (.p (.int j)) S = _
  rw [op2_rd (rd_lst h) (rd_p _ _)]
  rfl
@[simp] theorem pIB_int (g : Int → Int → Bool) (i j : Int) : pIB g (.int i) (.int j) = some (.bl (g i j)) := rfl
@[simp] theorem pI_int (g : Int → Int → Int) (i j : Int) : pI g (.int i) (.int j) = some (.int (g i j)) := rfl
@[simp] theorem pIC_int (C : Int → Int → Bool) (g : Int → Int → Int) (i j : Int) : pIC C g (.int i) (.int j) = if C i j then some (.int (g i j)) else none := rfl
@[simp] theorem pAdd_int (i j : Int) : pAdd (.int i) (.int j) = some (.int (i + j)) := rfl
@[simp] theorem pAdd_str (x y : List Nat) : pAdd (.str x) (.str y) = if x.length + y.length ≤ 100000 then some (.str (x ++ y)) else none := rfl
@[simp] theorem pAdd_lst (x y : List P) : pAdd (.lst x) (.lst y) = if x.length + y.length ≤ 100000 then some (.lst (x ++ y)) else none := rfl
@[simp] theorem pAdd_tup (x y : List P) : pAdd (.tup x) (.tup y) = if x.length + y.length ≤ 100000 then some (.tup (x ++ y)) else none := rfl
@[simp] theorem pMul_int (i j : Int) : pMul (.int i) (.int j) = if bMul i j then some (.int (i * j)) else none := rfl
@[simp] theorem pInt_int (i : Int) : pInt [.int i] = some (.int i) := rfl
@[simp] theorem pAbs_int (i : Int) : pAbs [.int i] = some (.int (if i < 0 then -i else i)) := rfl
@[simp] theorem pDivmod_int (i j : Int) : pDivmod [.int i, .int j] = if bDiv i j then some (.tup [.int (i / j), .int (i % j)]) else none := rfl
@[simp] theorem pLen_lst (xs : List P) : pLen [.lst xs] = some (.int xs.length) := rfl
@[simp] theorem pLen_scr (xs : List P) : pLen [.scr xs] = some (.int xs.length) := rfl
@[simp] theorem pLen_tup (xs : List P) : pLen [.tup xs] = some (.int xs.length) := rfl
@[simp] theorem pLen_str (x : List Nat) : pLen [.str x] = if x.length ≤ 100000 then some (.int x.length) else none := rfl
@[simp] theorem pTuple_lst (xs : List P) : pTuple [.lst xs] = some (.tup xs) := rfl
@[simp] theorem pTuple_tup (xs : List P) : pTuple [.tup xs] = some (.tup xs) := rfl
@[simp] theorem pList_lst (xs : List P) : pList [.lst xs] = some (.lst xs) := rfl
@[simp] theorem pIx_lst (xs : List P) (i : Int) : pIx (.lst xs) (.int i) = atI xs i := rfl
@[simp] theorem pIx_scr (xs : List P) (i : Int) : pIx (.scr xs) (.int i) = atI xs i := rfl
@[simp] theorem pIx_tup (xs : List P) (i : Int) : pIx (.tup xs) (.int i) = atI xs i := rfl
@[simp] theorem itemsP_lst (xs : List P) : itemsP (.lst xs) = some xs := rfl
@[simp] theorem itemsP_tup (xs : List P) : itemsP (.tup xs) = some xs := rfl
@[simp] theorem itemsP_str (x : List Nat) : itemsP (.str x) = some (x.map fun c => .str [c]) := rfl
theorem bMul_l {i j : Int} (h : -(2 ^ 64) < i) (h' : i < 2 ^ 64) : bMul i j = true := by
  unfold bMul
  rw [decide_eq_true h, decide_eq_true h']
  rfl
theorem bMul_r {i j : Int} (h : -(2 ^ 64) < j) (h' : j < 2 ^ 64) : bMul i j = true := by
  unfold bMul
  rw [decide_eq_true h, decide_eq_true h']
  simp
theorem bDiv_of {i j : Int} (h : 0 < j) (h' : j < 1073741824) : bDiv i j = true := by
  unfold bDiv
  rw [decide_eq_true h, decide_eq_true h']
  rfl
theorem bMod_of {i j : Int} (h : 0 < j) : bMod i j = true := decide_eq_true h
theorem atN {A : Type} {xs : List A} {i : Nat} {x : A} (h : xs[i]? = some x) : atI xs (i : Int) = some x := by
  have hl := (List.getElem?_eq_some_iff.mp h).1
  unfold atI ixN
  rw [if_pos (by omega), if_pos (by omega)]
  exact h
@[simp] theorem atI_0 {A : Type} (x : A) (xs : List A) : atI (x :: xs) 0 = some x := atN (i := 0) rfl
@[simp] theorem atI_1 {A : Type} (x y : A) (xs : List A) : atI (x :: y :: xs) 1 = some y := atN (i := 1) rfl
@[simp] theorem atI_2 {A : Type} (x y z : A) (xs : List A) : atI (x :: y :: z :: xs) 2 = some z := atN (i := 2) rfl
theorem get_set_self {S : Sto} {k : Nat} {c c' : Cell} (h : S[k]? = some c) : (S.set k c')[k]? = some c' := by
  rw [List.getElem?_set_self (List.getElem?_eq_some_iff.mp h).1]
theorem get_set_ne {S : Sto} {k j : Nat} {c' : Cell} (h : k ≠ j) : (S.set k c')[j]? = S[j]? := List.getElem?_set_ne h
theorem setV_lst {S : Sto} {k n : Nat} {xs : List P} {j : Int} {x : P} (h : S[k]? = some (.lst xs)) (hj : ixN xs.length j = some n) : setV (.c k) (.p (.int j)) (.p x) S = .ok () (S.set k (.lst (xs.set n x))) := by
  unfold setV
  dsimp only
  rw [h]
  dsimp only
  rw [frz_p, bind_ok, h]
  dsimp only
  rw [hj]
end Mir
namespace Mir
open L2
@[simp] theorem endF_p (n : Nat) (x : P) (S : Sto) : endF n (.ok (.rt (.p x)) S) = .ok (.p x) (S.take n) := rfl
@[simp] theorem endF_nx (n : Nat) (ρ : En) (S : Sto) : endF n (.ok (.nx ρ) S) = .ok (.p .non) (S.take n) := rfl
theorem take_len {S S' : Sto} (h : S'.length = S.length) : S'.take S.length = S' := List.take_of_length_le (by omega)
@[simp] theorem take_self (S : Sto) : S.take S.length = S := List.take_of_length_le (Nat.le_refl _)
@[simp] theorem take_app (S T : Sto) : (S ++ T).take S.length = S := by simp
theorem mkF_eq (n k : Nat) (b : MS) (ds : List Vl) (S : Sto) (h : ds.length = n) : mkF n k b ds S = endF S.length (b (ds.map some ++ List.replicate k none) S) := if_pos h
theorem forGo_cons (g : MG) (b : MS) (x : P) (xs : List P) (ρ : En) (S : Sto) : forGo g b (x :: xs) ρ S = ((g (.p x) ρ S).nox).go ρ fun ρ1 S1 => match b ρ1 S1 with
    | .ok (.nx ρ2) S2 => forGo g b xs ρ2 S2
    | .ok (.ct ρ2) S2 => forGo g b xs ρ2 S2
    | .ok (.bk ρ2) S2 => .ok (.nx ρ2) S2
    | .ok (.rt d) S2 => .ok (.rt d) S2
    | .ok (.xc ρ2 c x) S2 => .ok (.xc ρ2 c x) S2
    | .bad => .bad := rfl
end Mir
namespace Mir
open L2
@[simp] theorem pEq_int (i j : Int) : pEq (.int i) (.int j) = some (.bl (i == j)) := rfl
@[simp] theorem pNe_int (i j : Int) : pNe (.int i) (.int j) = some (.bl (!(i == j))) := rfl
@[simp] theorem rangeP_length (lo : Int) (n : Nat) : (rangeP lo n).length = n := by
  unfold rangeP
  rw [List.length_map, List.length_range]
theorem rangeP_0 (n : Nat) : rangeP 0 n = (List.range n).map fun (k : Nat) => P.int (k : Int) := by
  unfold rangeP
  apply List.map_congr_left
  intro a _
  rw [Int.zero_add]
theorem ixV_lsv {S : Sto} {k : Nat} {xs : List Vl} {j : Int} {x : Vl} (h : S[k]? = some (.lsv xs)) (hx : atI xs j = some x) : ixV (.c k) (.p (.int j)) S = .ok x S := by
  unfold ixV
  dsimp only
  rw [h]
  dsimp only
  rw [hx]
theorem frz_lst {S : Sto} {k : Nat} {xs : List P} (h : S[k]? = some (.lst xs)) : frz (.c k) S = .ok (.lst xs) (S.set k (.fz (.lst xs))) := by
  unfold frz frzN
  dsimp only
  rw [h]
theorem frz_fz {S : Sto} {k : Nat} {x : P} (h : S[k]? = some (.fz x)) : frz (.c k) S = .ok x S := by
  unfold frz frzN
  dsimp only
  rw [h]
end Mir
namespace Mir
open L2
theorem itRange1_nat {a : ME} {ρ : En} {S S1 : Sto} {n : Nat} (h : a ρ S = .ok (.p (.int (n : Int))) S1) (hn : n < 1000000) : itRange1 a ρ S = .ok (rangeP 0 n) S1 := by
  have h1 : (n : Int) < 2 ^ 62 := Int.lt_of_lt_of_le (b := 1000000) (by omega) (by decide)
  have h2 : -(2 ^ 62) ≤ (n : Int) := Int.le_trans (b := 0) (by decide) (by omega)
  unfold itRange1
  rw [h, bind_ok]
  dsimp only
  rw [if_pos ⟨h1, h2⟩, Int.toNat_natCast]
end Mir
namespace Mir
open L2
theorem eCall1_of {g : List P → Option P} {a : ME} {ρ : En} {S S1 : Sto} {x z : P} (h : a ρ S = .ok (.p x) S1) (hg : g [x] = some z) : eCall g (aCons a aNil) ρ S = .ok (.p z) S1 := by
  unfold eCall aCons aNil
  rw [h, bind_ok, bind_ok, bind_ok]
  show (match rds S1 [.p x] with
    | some xs => ofO (g xs) S1
    | none => Res.bad) = _
  rw [rds_p, rds_nil]
  show ofO (g [x]) S1 = _
  rw [hg]
  rfl
end Mir
namespace Mir
open L2
theorem lcGo_gen {A : Type} {g : MG} {t : MT} {e : ME} {ρ : En} {S : Sto} (en : A → P) (q : A → Bool) (f : A → P) : ∀ (ys : List A), (∀ y ∈ ys, ∃ ρ1, g (.p (en y)) ρ S = .ok ρ1 S ∧ t ρ1 S = .ok (q y) S ∧ (q y = true → e ρ1 S = .ok (.p (f y)) S)) →
    lcGo g t e ρ (ys.map en) S = .ok ((ys.filter q).map f) S
  | [], _ => rfl
  | x :: xs, h => by
    obtain ⟨ρ1, h1, h2, h3⟩ := h x List.mem_cons_self
    have ih := lcGo_gen en q f xs fun y hy => h y (List.mem_cons_of_mem _ hy)
    rw [List.map_cons]
    unfold lcGo
    rw [h1, nox_ok, bind_ok, h2, nox_ok, bind_ok]
    cases hq : q x with
    | false =>
      dsimp only
      rw [ih, List.filter_cons_of_neg (by rw [hq]; decide)]
    | true =>
      dsimp only
      rw [h3 hq, nox_ok, bind_ok, frz_p, bind_ok, ih, bind_ok, List.filter_cons_of_pos hq]
      rfl
theorem eLc_gen {A : Type} {it : MI} {vs : List Nat} {g : MG} {t : MT} {e : ME} {ρ : En} {S S1 : Sto} (ys : List A) (en : A → P) (q : A → Bool) (f : A → P) (hi : it ρ S = .ok (ys.map en) S1) (hl : ys.length ≤ 100000)
    (h : ∀ y ∈ ys, ∃ ρ1, g (.p (en y)) (wipeE ρ vs) S1 = .ok ρ1 S1 ∧ t ρ1 S1 = .ok (q y) S1 ∧ (q y = true → e ρ1 S1 = .ok (.p (f y)) S1)) : eLc it vs g t e ρ S = .ok (.p (.lst ((ys.filter q).map f))) S1 := by
  unfold eLc
  rw [hi, bind_ok, if_pos (by rw [List.length_map]; exact hl), lcGo_gen en q f ys h, bind_ok]
theorem eLc_genm {A : Type} {it : MI} {vs : List Nat} {g : MG} {e : ME} {ρ : En} {S S1 : Sto} (ys : List A) (en f : A → P) (hi : it ρ S = .ok (ys.map en) S1) (hl : ys.length ≤ 100000)
    (h : ∀ y ∈ ys, ∃ ρ1, g (.p (en y)) (wipeE ρ vs) S1 = .ok ρ1 S1 ∧ e ρ1 S1 = .ok (.p (f y)) S1) : eLc it vs g tsYes e ρ S = .ok (.p (.lst (ys.map f))) S1 := by
  have := eLc_gen (t := tsYes) (e := e) (g := g) (vs := vs) ys en (fun _ => true) f hi hl (fun x hx => by
    obtain ⟨ρ1, h1, h2⟩ := h x hx
    exact ⟨ρ1, h1, rfl, fun _ => h2⟩)
  rw [this, List.filter_eq_self.mpr (fun _ _ => rfl)]
theorem enumP_eq (xs : List P) : enumP 0 xs = (List.range xs.length).map fun (i : Nat) => P.tup [.int (i : Int), xs.getD i .non] := by
  apply List.ext_getElem?
  intro i
  rw [enumP_get, List.getElem?_map]
  by_cases h : i < xs.length
  · rw [List.getElem?_range h, List.getElem?_eq_getElem h]
    simp [h]
  · rw [List.getElem?_eq_none (by omega), List.getElem?_eq_none (by rw [List.length_range]; omega)]
    rfl
theorem itEnum_p {a : ME} {ρ : En} {S S1 : Sto} {xs : List P} (h : a ρ S = .ok (.p (.lst xs)) S1) : itEnum a ρ S = .ok ((List.range xs.length).map fun (i : Nat) => P.tup [.int (i : Int), xs.getD i .non]) S1 := by
  unfold itEnum
  rw [h, bind_ok, frz_p, bind_ok]
  dsimp only
  rw [enumP_eq]
end Mir

namespace Mir
open L2 Pl
abbrev nums (l : List Nat) : List P := l.map fun (e : Nat) => P.int (e : Int)
@[simp] theorem ints_length (l : List Nat) : (nums l).length = l.length := List.length_map _
theorem ints_append (l m : List Nat) : nums (l ++ m) = nums l ++ nums m := List.map_append
end Mir

namespace Mir
open PySem L2
def andK (x : Bool) (r : Res Bool) (S : Sto) : Res Bool := match x with
  | true => r
  | false => .ok false S
def orK (x : Bool) (r : Res Bool) (S : Sto) : Res Bool := match x with
  | true => .ok true S
  | false => r
def eandK (x : Bool) (r : Res Vl) (S : Sto) : Res Vl := match x with
  | true => r
  | false => .ok (.p (.bl false)) S
def eorK (x : Bool) (r : Res Vl) (S : Sto) : Res Vl := match x with
  | true => .ok (.p (.bl true)) S
  | false => r
def ifK {A : Type} (x : Bool) (a b : A) : A := match x with
  | true => a
  | false => b
section
variable {ρ ρ1 ρ2 : En} {S S1 S2 S3 : Sto} {a b c : ME} {t u : MT} {m r : MA} {s s' : MS} {x y z w : P} {d e v : Vl} {ds es : List Vl} {xs ys : List P}
theorem ev_var {i : Nat} (h : ρ[i]? = some (some d)) : eVar i ρ S = .ok d S := by
  unfold eVar
  rw [h]
theorem ev_c : eC x ρ S = .ok (.p x) S := rfl
theorem ev_un {f : P → Option P} (ha : a ρ S = .ok d S1) (hd : rd S1 d = some x) (hf : f x = some z) : eUn f a ρ S = .ok (.p z) S1 := by
  rw [eUn_eq, ha, bind_ok, op1_rd hd, hf, ofO_some]
theorem ev_bin {f : P → P → Option P} (ha : a ρ S = .ok d S1) (hb : b ρ S1 = .ok e S2) (hd : rd S2 d = some x) (he : rd S2 e = some y) (hf : f x y = some z) : eBin f a b ρ S = .ok (.p z) S2 := by
  rw [eBin_eq, ha, bind_ok, hb, bind_ok, op2_rd hd he, hf, ofO_some]
theorem ev_item (ha : a ρ S = .ok d S1) (hb : b ρ S1 = .ok e S2) (hx : ixV (nv S2 d) e S2 = .ok v S2) : eItem a b ρ S = .ok v S2 := by
  rw [eItem_eq, ha, bind_ok, hb, bind_ok, hx]
theorem ixv_p (h : pIx x y = some z) : ixV (nv S (.p x)) (.p y) S = .ok (.p z) S := by
  rw [nv_p, ixV_p, op2_pp, h, ofO_some]
theorem ixv_l {k : Nat} {j : Int} (hk : S[k]? = some (.lst xs)) (h : atI xs j = some z) : ixV (nv S (.c k)) (.p (.int j)) S = .ok (.p z) S := by
  rw [nv_lst hk, ixV_lst hk, h, ofO_some]
theorem ixv_v {k : Nat} {j : Int} {vs : List Vl} (hk : S[k]? = some (.lsv vs)) (h : atI vs j = some v) : ixV (nv S (.c k)) (.p (.int j)) S = .ok v S := by
  rw [nv_lsv hk, ixV_lsv hk h]
theorem ixv_f {k : Nat} (hk : S[k]? = some (.fz x)) (h : pIx x y = some z) : ixV (nv S (.c k)) (.p y) S = .ok (.p z) S := by
  rw [nv_fz hk, ixV_p, op2_pp, h, ofO_some]
theorem rds_c (h : rd S d = some x) (h2 : rds S ds = some xs) : rds S (d :: ds) = some (x :: xs) := by
  rw [rds_rd h, h2]
  rfl
theorem ev_call {f : List P → Option P} (hm : m ρ S = .ok ds S1) (hr : rds S1 ds = some xs) (hf : f xs = some z) : eCall f m ρ S = .ok (.p z) S1 := by
  rw [eCall_eq, hm, bind_ok, call1_eq, hr]
  dsimp only
  rw [hf, ofO_some]
theorem ev_mth {T : String} {f : P → List P → Option P} (ha : a ρ S = .ok d S1) (hr : rd S1 d = some x) (ht : tyP T x = true) (hm : m ρ S1 = .ok ds S2) (hr2 : rd S2 d = some y) (hrs : rds S2 ds = some xs) (hf : f y xs = some z) : eMthT T f a m ρ S = .ok (.p z) S2 := by
  rw [eMthT_p, ha, bind_ok, hr]
  dsimp only
  rw [ht, if_pos rfl, hm, bind_ok, call1_eq, rds_c hr2 hrs]
  dsimp only
  rw [hf, ofO_some]
theorem ev_mut {g : Sto → Vl → Bool} {f : FM} (ha : a ρ S = .ok d S1) (hg : g S1 d = true) (hm : m ρ S1 = .ok ds S2) (hf : f d ds S2 = .ok v S3) : eMut g f a m ρ S = .ok v S3 := by
  rw [eMut_eq, ha, bind_ok, hg, if_pos rfl, hm, bind_ok, hf]
theorem ev_fn {f : MF} (hm : m ρ S = .ok ds S1) (hf : f ds S1 = .ok v S2) : eFn f m ρ S = .ok v S2 := by
  rw [eFn_eq, hm, bind_ok, hf]
theorem ev_fnK {f : MF} {n kl : Nat} {pm : List Nat} {zs as : List Vl} (hm : m ρ S = .ok ds S1) (hr : r ρ S1 = .ok zs S2) (h1 : ds.length = n) (h2 : zs.length = kl) (hp : permL (.p .non) pm (ds ++ zs) = as) (hf : f as S2 = .ok v S3) : eFnK f n kl pm m r ρ S = .ok v S3 := by
  unfold eFnK
  rw [hm, bind_ok, hr, bind_ok, if_pos ⟨h1, h2⟩, hp, hf]
theorem ev_meth {c f : PySem.Str} {g : MF} (ha : a ρ S = .ok d S1) (hg : isO c f S1 (nv S1 d) = true) (hm : m ρ S1 = .ok ds S2) (hf : g (d :: ds) S2 = .ok v S3) : eMeth c f g a m ρ S = .ok v S3 := by
  rw [eMeth_eq, ha, bind_ok, hg, if_pos rfl, hm, bind_ok, hf]
theorem ev_methK {c f : PySem.Str} {g : MF} {n kl : Nat} {pm : List Nat} {zs as : List Vl} (ha : a ρ S = .ok d S1) (hg : isO c f S1 (nv S1 d) = true) (hm : m ρ S1 = .ok ds S2) (hr : r ρ S2 = .ok zs S3) (h1 : ds.length = n) (h2 : zs.length = kl) {S4 : Sto}
    (hp : permL (.p .non) pm (d :: (ds ++ zs)) = as) (hf : g as S3 = .ok v S4) : eMethK c f g n kl pm a m r ρ S = .ok v S4 := by
  unfold eMethK
  rw [ha, bind_ok, hg, if_pos rfl, hm, bind_ok, hr, bind_ok, if_pos ⟨h1, h2⟩, ← List.cons_append] at *
  first
    | exact hf
    | (rw [hp]; exact hf)
    | (simp only [List.cons_append] at hp ⊢; rw [hp]; exact hf)
theorem ev_make {kp : Bool} {c : PySem.Str} {g : MF} (hm : m ρ S = .ok ds S1) (hf : mkO kp c g ds S1 = .ok v S2) : eMake kp c g m ρ S = .ok v S2 := by
  rw [eMake_eq, hm, bind_ok, hf]
theorem ev_fld {c f : PySem.Str} (ha : a ρ S = .ok d S1) (hf : fldV c f (nv S1 d) S1 = .ok v S1) : eFld c f a ρ S = .ok v S1 := by
  rw [eFld_eq, ha, bind_ok, hf]
theorem ev_prop {c : PySem.Str} {f : MF} (ha : a ρ S = .ok d S1) (hg : isC c S1 (nv S1 d) = true) (hf : f [d] S1 = .ok v S2) : eProp c f a ρ S = .ok v S2 := by
  rw [eProp_eq, ha, bind_ok, hg, if_pos rfl, hf, nox_ok]
theorem ev_isi {cs : List PySem.Str} {T : Tg} {q : Bool} (ha : a ρ S = .ok d S1) (hb : b ρ S1 = .ok (.p y) S2) (ht : tgOf S2 (nv S2 d) = some T) (hi : isT cs T y = some q) : eIsi cs a b ρ S = .ok (.p (.bl q)) S2 := by
  unfold eIsi
  rw [ha, bind_ok, hb, bind_ok, ht]
  dsimp only
  rw [hi]
theorem ev_anil : aNil ρ S = .ok [] S := rfl
theorem ev_acons (ha : a ρ S = .ok d S1) (hm : m ρ S1 = .ok ds S2) : aCons a m ρ S = .ok (d :: ds) S2 := by
  rw [aCons_eq, ha, bind_ok, hm, bind_ok]
theorem ev_tval {q : Bool} (ha : a ρ S = .ok (.p (.bl q)) S1) : tVal a ρ S = .ok q S1 := by
  rw [tVal_eq, ha, bind_ok, tst_bl]
theorem ev_tand {q q2 : Bool} (ht : t ρ S = .ok q S1) (hk : andK q (u ρ S1) S1 = .ok q2 S2) : tAndM t u ρ S = .ok q2 S2 := by
  rw [tAnd_eq, ht, bind_ok]
  exact hk
theorem ev_tor {q q2 : Bool} (ht : t ρ S = .ok q S1) (hk : orK q (u ρ S1) S1 = .ok q2 S2) : tOrM t u ρ S = .ok q2 S2 := by
  rw [tOr_eq, ht, bind_ok]
  exact hk
theorem ev_tnot {q q' : Bool} (ht : t ρ S = .ok q S1) (hq : (!q) = q') : tNotM t ρ S = .ok q' S1 := by
  rw [tNot_eq, ht, bind_ok, hq]
theorem ev_eand {q : Bool} (ha : a ρ S = .ok (.p (.bl q)) S1) (hk : eandK q (b ρ S1) S1 = .ok v S2) : eAndM a b ρ S = .ok v S2 := by
  rw [eAnd_eq, ha, bind_ok, tst_bl, bind_ok]
  exact hk
theorem ev_eor {q : Bool} (ha : a ρ S = .ok (.p (.bl q)) S1) (hk : eorK q (b ρ S1) S1 = .ok v S2) : eOrM a b ρ S = .ok v S2 := by
  rw [eOr_eq, ha, bind_ok, tst_bl, bind_ok]
  exact hk
theorem ev_enot {q q' : Bool} (ha : a ρ S = .ok (.p (.bl q)) S1) (hq : (!q) = q') : eNotM a ρ S = .ok (.p (.bl q')) S1 := by
  rw [eNot_eq, ha, bind_ok, tst_bl, bind_ok, hq]
theorem ev_if {q : Bool} (ht : t ρ S = .ok q S1) (hk : ifK q (a ρ S1) (b ρ S1) = .ok v S2) : eIfM t a b ρ S = .ok v S2 := by
  rw [eIf_eq, ht, bind_ok]
  exact hk
theorem ev_isN (ha : a ρ S = .ok d S1) {q : Bool} (h : isN d = q) : eIsN a ρ S = .ok (.p (.bl q)) S1 := by
  rw [eIsN_eq, ha, bind_ok, h]
theorem ev_notN (ha : a ρ S = .ok d S1) {q : Bool} (h : (!isN d) = q) : eNotN a ρ S = .ok (.p (.bl q)) S1 := by
  rw [eNotN_eq, ha, bind_ok, h]

theorem andK_f {r : Res Bool} : andK false r S = .ok false S := rfl
theorem andK_t {r o : Res Bool} (h : r = o) : andK true r S = o := h
theorem andK_s {q q2 : Bool} {r : Res Bool} (h : q = true → r = .ok q2 S) : andK q r S = .ok (q && q2) S := by
  cases q with
  | false => rfl
  | true => exact h rfl
theorem orK_t {r : Res Bool} : orK true r S = .ok true S := rfl
theorem orK_f {r o : Res Bool} (h : r = o) : orK false r S = o := h
theorem orK_s {q q2 : Bool} {r : Res Bool} (h : q = false → r = .ok q2 S) : orK q r S = .ok (q || q2) S := by
  cases q with
  | true => rfl
  | false => exact h rfl
theorem eandK_f {r : Res Vl} : eandK false r S = .ok (.p (.bl false)) S := rfl
theorem eandK_t {r o : Res Vl} (h : r = o) : eandK true r S = o := h
theorem eandK_s {q q2 : Bool} {r : Res Vl} (h : q = true → r = .ok (.p (.bl q2)) S) : eandK q r S = .ok (.p (.bl (q && q2))) S := by
  cases q with
  | false => rfl
  | true => exact h rfl
theorem eorK_t {r : Res Vl} : eorK true r S = .ok (.p (.bl true)) S := rfl
theorem eorK_f {r o : Res Vl} (h : r = o) : eorK false r S = o := h
theorem eorK_s {q q2 : Bool} {r : Res Vl} (h : q = false → r = .ok (.p (.bl q2)) S) : eorK q r S = .ok (.p (.bl (q || q2))) S := by
  cases q with
  | true => rfl
  | false => exact h rfl
theorem ifK_t {A : Type} {p q o : A} (h : p = o) : ifK true p q = o := h
theorem ifK_f {A : Type} {p q o : A} (h : q = o) : ifK false p q = o := h
theorem ifK_yes {A : Type} {x : Bool} {p q o : A} (hx : x = true) (h : p = o) : ifK x p q = o := by
  subst hx
  exact h
theorem ifK_no {A : Type} {x : Bool} {p q o : A} (hx : x = false) (h : q = o) : ifK x p q = o := by
  subst hx
  exact h
theorem ifK_s {q : Bool} {r r' : Res Vl} (h : q = true → r = .ok (.p x) S) (h' : q = false → r' = .ok (.p y) S) : ifK q r r' = .ok (.p (if q then x else y)) S := by
  cases q with
  | true => exact h rfl
  | false => exact h' rfl
theorem ifK_n {q : Bool} {i j : Nat} {r r' : Res Vl} (h : q = true → r = .ok (.p (.int (i : Int))) S) (h' : q = false → r' = .ok (.p (.int (j : Int))) S) : ifK q r r' = .ok (.p (.int ((if q then i else j : Nat) : Int))) S := by
  cases q with
  | true => exact h rfl
  | false => exact h' rfl
theorem ifK_i {q : Bool} {i j : Int} {r r' : Res Vl} (h : q = true → r = .ok (.p (.int i)) S) (h' : q = false → r' = .ok (.p (.int j)) S) : ifK q r r' = .ok (.p (.int (if q then i else j))) S := by
  cases q with
  | true => exact h rfl
  | false => exact h' rfl

theorem frzs_z : frzs [] S = .ok [] S := rfl
theorem frzs_s (h : frz d S = .ok x S1) (h2 : frzs ds S1 = .ok xs S2) : frzs (d :: ds) S = .ok (x :: xs) S2 := by
  rw [frzs_cons, h, bind_ok, h2, bind_ok]
theorem ev_tup (hm : m ρ S = .ok ds S1) (hf : frzs ds S1 = .ok xs S2) (hl : xs.length ≤ 100000) : eTup m ρ S = .ok (.p (.tup xs)) S2 := by
  rw [eTup_eq, hm, bind_ok, hf, bind_ok, if_pos hl]
theorem ev_lst (hm : m ρ S = .ok ds S1) (hf : frzs ds S1 = .ok xs S2) (hl : xs.length ≤ 100000) : eLst m ρ S = .ok (.p (.lst xs)) S2 := by
  rw [eLst_eq, hm, bind_ok, hf, bind_ok, if_pos hl]
theorem ev_lstC (hm : m ρ S = .ok ds S1) (hf : frzs ds S1 = .ok xs S2) (hl : xs.length ≤ 100000) : eLstC m ρ S = .ok (.c S2.length) (S2 ++ [.lst xs]) := by
  rw [eLstC_eq, hm, bind_ok, hf, bind_ok, if_pos hl]

theorem ev_sl {l h : En → Sto → Res (Option Int)} {lo hi : Option Int} (ha : a ρ S = .ok d S1) (hl : l ρ S1 = .ok lo S2) (hh : h ρ S2 = .ok hi S3) (hd : rd S3 d = some x) (hf : pSl lo hi x = some z) : eSl a l h ρ S = .ok (.p z) S3 := by
  rw [eSl_eq, ha, bind_ok, hl, bind_ok, hh, bind_ok, op1_rd hd, hf, ofO_some]
theorem ev_ono : oNo ρ S = .ok none S := rfl
theorem ev_oyes {i : Int} (ha : a ρ S = .ok (.p (.int i)) S1) : oYes a ρ S = .ok (some i) S1 := by
  rw [oYes_eq, ha, bind_ok, intV_int]

theorem ev_itOf (ha : a ρ S = .ok d S1) (hf : frz d S1 = .ok x S2) (hi : itemsP x = some xs) : itOf a ρ S = .ok xs S2 := by
  rw [itOf_eq, ha, bind_ok, hf, bind_ok, hi]
theorem ev_range1 {n : Nat} (ha : a ρ S = .ok (.p (.int (n : Int))) S1) (hn : n < 1000000) : itRange1 a ρ S = .ok ((List.range n).map fun (k : Nat) => P.int (k : Int)) S1 := by
  rw [itRange1_nat ha hn, rangeP_0]
theorem ev_range1i {i : Int} {n : Nat} (ha : a ρ S = .ok (.p (.int i)) S1) (hi : i = (n : Int)) (hn : n < 1000000) : itRange1 a ρ S = .ok ((List.range n).map fun (k : Nat) => P.int (k : Int)) S1 := by
  subst hi
  exact ev_range1 ha hn
theorem ev_enum_map {A : Type} {ys : List A} {f : A → P} [Inhabited A] (ha : a ρ S = .ok (.p (.lst (ys.map f))) S1) : itEnum a ρ S = .ok ((List.range ys.length).map fun (i : Nat) => P.tup [.int (i : Int), f (ys.getD i default)]) S1 := by
  rw [itEnum_p ha]
  congr 1
  rw [List.length_map]
  apply List.map_congr_left
  intro i hi
  have hi := List.mem_range.mp hi
  simp [hi]
theorem zipP_map {A B : Type} (f : A → P) (g : B → P) : ∀ (xs : List A) (ys : List B), zipP (xs.map f) (ys.map g) = (xs.zip ys).map fun q => P.tup [f q.1, g q.2]
  | [], _ => rfl
  | _ :: _, [] => rfl
  | x :: xs, y :: ys => by
    show _ :: zipP (xs.map f) (ys.map g) = _
    rw [zipP_map f g xs ys]
    rfl
theorem ev_zip {A B : Type} {f : A → P} {g : B → P} {us : List A} {ws : List B} (ha : a ρ S = .ok (.p (.lst (us.map f))) S1) (hb : b ρ S1 = .ok (.p (.lst (ws.map g))) S2) : itZip a b ρ S = .ok ((us.zip ws).map fun q => P.tup [f q.1, g q.2]) S2 := by
  unfold itZip
  rw [ha, bind_ok, hb, bind_ok]
  dsimp only
  rw [zipP_map]

theorem ev_lc {A : Type} {it : MI} {vs : List Nat} {g : MG} {ys : List A} {en f : A → P} {q : A → Bool} {ρ0 : En} {ρ1 : A → En} (hi : it ρ S = .ok (ys.map en) S1) (hl : ys.length ≤ 100000) (hw : wipeE ρ vs = ρ0)
    (hg : ∀ y, y ∈ ys → g (.p (en y)) ρ0 S1 = .ok (ρ1 y) S1) (ht : ∀ y, y ∈ ys → t (ρ1 y) S1 = .ok (q y) S1) (he : ∀ y, y ∈ ys → q y = true → a (ρ1 y) S1 = .ok (.p (f y)) S1) : eLc it vs g t a ρ S = .ok (.p (.lst ((ys.filter q).map f))) S1 := by
  subst hw
  exact eLc_gen ys en q f hi hl fun y hy => ⟨ρ1 y, hg y hy, ht y hy, he y hy⟩
theorem ev_lcm {A : Type} {it : MI} {vs : List Nat} {g : MG} {ys : List A} {en f : A → P} {ρ0 : En} {ρ1 : A → En} (hi : it ρ S = .ok (ys.map en) S1) (hl : ys.length ≤ 100000) (hw : wipeE ρ vs = ρ0)
    (hg : ∀ y, y ∈ ys → g (.p (en y)) ρ0 S1 = .ok (ρ1 y) S1) (he : ∀ y, y ∈ ys → a (ρ1 y) S1 = .ok (.p (f y)) S1) : eLc it vs g tsYes a ρ S = .ok (.p (.lst (ys.map f))) S1 := by
  subst hw
  exact eLc_genm ys en f hi hl fun y hy => ⟨ρ1 y, hg y hy, he y hy⟩
theorem ev_lcx {it : MI} {vs : List Nat} {g : MG} {ρ0 : En} (hi : it ρ S = .ok xs S1) (hl : xs.length ≤ 100000) (hw : wipeE ρ vs = ρ0) (hg : lcGo g t a ρ0 xs S1 = .ok ys S2) : eLc it vs g t a ρ S = .ok (.p (.lst ys)) S2 := by
  subst hw
  unfold eLc
  rw [hi, bind_ok, if_pos hl, hg, bind_ok]
theorem lcx_nil {g : MG} : lcGo g t a ρ [] S = .ok [] S := rfl
theorem lcx_yes {g : MG} {S4 : Sto} (hg : g (.p x) ρ S = .ok ρ1 S) (ha : a ρ1 S = .ok d S2) (hf : frz d S2 = .ok y S3) (hr : lcGo g tsYes a ρ xs S3 = .ok ys S4) : lcGo g tsYes a ρ (x :: xs) S = .ok (y :: ys) S4 := by
  unfold lcGo
  rw [hg, nox_ok, bind_ok]
  show ((Res.ok true S).nox.bind _) = _
  rw [nox_ok, bind_ok]
  dsimp only
  rw [ha, nox_ok, bind_ok, hf, bind_ok, hr, bind_ok]

theorem ev_gnm {i : Nat} (h : ρ.set i (some d) = ρ1) : gNm i d ρ S = .ok ρ1 S := by
  rw [gNm_eq, h]
theorem ev_gtp {n : Nat} {r : MGs} {vs : List Vl} (hl : xs.length = n) (hv : xs.map Vl.p = vs) (hr : r vs ρ S = .ok ρ1 S1) : gTp n r (.p (.tup xs)) ρ S = .ok ρ1 S1 := by
  rw [gTp_eq, if_pos hl, hv, hr]
theorem ev_gnl : gNl [] ρ S = .ok ρ S := rfl
theorem ev_gcn {g : MG} {r : MGs} (hg : g d ρ S = .ok ρ1 S1) (hr : r ds ρ1 S1 = .ok ρ2 S2) : gCn g r (d :: ds) ρ S = .ok ρ2 S2 := by
  rw [gCn_eq, hg, nox_ok, bind_ok, hr]
theorem ev_gsub {ρ' : En} (ha : a ρ S = .ok e S1) (hb : b ρ S1 = .ok v S2) (hs : setV e v d S2 = .ok () S3) : gSubM a b d ρ S = .ok ρ S3 := by
  rw [gSub_eq, ha, nox_ok, bind_ok, hb, nox_ok, bind_ok, hs, bind_ok]

theorem ev_pass : sPass ρ S = .ok (.nx ρ) S := rfl
theorem ev_expr (ha : a ρ S = .ok d S1) : sExpr a ρ S = .ok (.nx ρ) S1 := by
  rw [sExpr_eq, ha, go_ok]
theorem ev_ret (ha : a ρ S = .ok d S1) : sRet a ρ S = .ok (.rt d) S1 := by
  rw [sRet_eq, ha, go_ok]
theorem ev_retN : sRetN ρ S = .ok (.rt (.p .non)) S := rfl
theorem ev_seq {f : Fl} {o : RF} (h1 : s ρ S = .ok f S1) (h2 : (RF.ok f S1).thn s' = o) : sSeq s s' ρ S = o := by
  rw [sSeq_eq, h1, h2]
theorem thn_n {o : RF} (h : s ρ S = o) : (RF.ok (.nx ρ) S).thn s = o := h
theorem thn_r : (RF.ok (.rt d) S).thn s = .ok (.rt d) S := rfl
theorem ev_asg {g : MG} (ha : a ρ S = .ok d S1) (hg : g d ρ S1 = .ok ρ1 S2) : sAsg a g ρ S = .ok (.nx ρ1) S2 := by
  rw [sAsg_eq, ha, go_ok, hg, nox_ok, go_ok]
theorem ev_par {i j : Nat} (hm : m ρ S = .ok [d, e] S1) (h : (ρ.set i (some d)).set j (some e) = ρ1) : sPar i j m ρ S = .ok (.nx ρ1) S1 := by
  rw [sPar_eq, hm, go_ok]
  dsimp only
  rw [h]
theorem ev_par3 {i j l : Nat} (hm : m ρ S = .ok [d, e, v] S1) (h : ((ρ.set i (some d)).set j (some e)).set l (some v) = ρ1) : sPar3 i j l m ρ S = .ok (.nx ρ1) S1 := by
  rw [sPar3_eq, hm, go_ok]
  dsimp only
  rw [h]
theorem ev_parG {n : Nat} {g : MGs} (hm : m ρ S = .ok ds S1) (h1 : ds.length = n) (h2 : n ≤ 100000) (hg : g ds ρ S1 = .ok ρ1 S2) : sParG n m g ρ S = .ok (.nx ρ1) S2 := by
  rw [sParG_eq, hm, go_ok, if_pos ⟨h1, h2⟩, hg, nox_ok, go_ok]
theorem ev_sif {q : Bool} {o : RF} (ht : t ρ S = .ok q S1) (hk : ifK q (s ρ S1) (s' ρ S1) = o) : sIf t s s' ρ S = o := by
  rw [sIf_eq, ht, go_ok]
  exact hk

theorem ev_mkF {n k : Nat} {body : MS} {f : Fl} {o : Res Vl} (hl : ds.length = n) (hρ : ds.map some ++ List.replicate k none = ρ) (h : body ρ S = .ok f S1) (hr : endF S.length (.ok f S1) = o) : mkF n k body ds S = o := by
  rw [mkF_eq n k body ds S hl, hρ, h, hr]
theorem end_self : endF S.length (.ok (.rt (.p x)) S) = .ok (.p x) S := by
  rw [endF_p, take_self]
theorem end_nx : endF S.length (.ok (.nx ρ) S) = .ok (.p .non) S := by
  rw [endF_nx, take_self]
theorem end_app {T : Sto} : endF S.length (.ok (.rt (.p x)) (S ++ T)) = .ok (.p x) S := by
  rw [endF_p, take_app]
theorem end_nxa {T : Sto} : endF S.length (.ok (.nx ρ) (S ++ T)) = .ok (.p .non) S := by
  rw [endF_nx, take_app]

theorem cell0 {c : Cell} {T : Sto} : (S ++ (c :: T))[S.length]? = some c := by simp
theorem cell1 {c0 c : Cell} {T : Sto} : (S ++ (c0 :: c :: T))[S.length + 1]? = some c := by simp
theorem cell2 {c0 c1 c : Cell} {T : Sto} : (S ++ (c0 :: c1 :: c :: T))[S.length + 2]? = some c := by simp
end
end Mir

namespace Pl
def bitsN (l : List Nat) : Nat := (l.map fun a => 2 ^ a).sum
end Pl
namespace Mir
open PySem L2 Pl
theorem band_nat (a b : Nat) : Builtin.bitAnd (a : Int) (b : Int) = ((a &&& b : Nat) : Int) := PySem.W.os_band a b
theorem band_not (a b : Nat) : Builtin.bitAnd (a : Int) (Builtin.bitNot (b : Int)) = ((a - (a &&& b) : Nat) : Int) := by
  unfold Builtin.bitAnd
  have h1 : decide ((0 : Int) ≤ (a : Int)) = true := decide_eq_true (by omega)
  have h2 : decide ((0 : Int) ≤ Builtin.bitNot (b : Int)) = false := decide_eq_false (by unfold Builtin.bitNot; omega)
  rw [h1, h2]
  dsimp only
  have h3 : (Builtin.bitNot (Builtin.bitNot (b : Int))).toNat = b := by unfold Builtin.bitNot; omega
  rw [h3, Int.toNat_natCast]
  have : a &&& b ≤ a := Nat.and_le_left
  omega
theorem shr_test (b i : Nat) : Builtin.bitAnd ((b : Int) / 2 ^ (i : Int).toNat) 1 = if b.testBit i then 1 else 0 := by
  rw [PyProof.Rows.bitAnd_m1, Int.toNat_natCast]
  have e : ((b : Int) / 2 ^ i) % 2 = ((b / 2 ^ i % 2 : Nat) : Int) := by simp
  rw [e, Nat.testBit_eq_decide_div_mod_eq]
  rcases Nat.mod_two_eq_zero_or_one (b / 2 ^ i) with h | h <;> simp [h]
end Mir

namespace Mir
open PySem L2 Pl
section
variable {i j : Int} {a b n : Nat} {x y : List Nat} {xs ys : List P} {p q : P}
theorem op_addN : pAdd (.int (a : Int)) (.int (b : Int)) = some (.int ((a + b : Nat) : Int)) := by
  rw [pAdd_int, Int.natCast_add]
theorem op_addN1 : pAdd (.int (a : Int)) (.int 1) = some (.int ((a + 1 : Nat) : Int)) := rfl
theorem op_add1N : pAdd (.int 1) (.int (a : Int)) = some (.int ((1 + a : Nat) : Int)) := by
  rw [pAdd_int, Int.natCast_add]
  rfl
theorem op_add : pAdd (.int i) (.int j) = some (.int (i + j)) := rfl
theorem op_addS (h : x.length + y.length ≤ 100000) : pAdd (.str x) (.str y) = some (.str (x ++ y)) := by
  rw [pAdd_str, if_pos h]
theorem op_addL (h : xs.length + ys.length ≤ 100000) : pAdd (.lst xs) (.lst ys) = some (.lst (xs ++ ys)) := by
  rw [pAdd_lst, if_pos h]
theorem op_addT (h : xs.length + ys.length ≤ 100000) : pAdd (.tup xs) (.tup ys) = some (.tup (xs ++ ys)) := by
  rw [pAdd_tup, if_pos h]
theorem op_addLm {A : Type} {us ws : List A} {f : A → P} (h : us.length + ws.length ≤ 100000) : pAdd (.lst (us.map f)) (.lst (ws.map f)) = some (.lst ((us ++ ws).map f)) := by
  rw [op_addL (by rw [List.length_map, List.length_map]; exact h), List.map_append]
theorem op_addTm {A : Type} {us ws : List A} {f : A → P} (h : us.length + ws.length ≤ 100000) : pAdd (.tup (us.map f)) (.tup (ws.map f)) = some (.tup ((us ++ ws).map f)) := by
  rw [op_addT (by rw [List.length_map, List.length_map]; exact h), List.map_append]
theorem op_pI {g : Int → Int → Int} : pI g (.int i) (.int j) = some (.int (g i j)) := rfl
theorem op_pIB {g : Int → Int → Bool} : pIB g (.int i) (.int j) = some (.bl (g i j)) := rfl
theorem op_band : pI (fun i j => Builtin.bitAnd i j) (.int (a : Int)) (.int (b : Int)) = some (.int ((a &&& b : Nat) : Int)) := by
  rw [pI_int, band_nat]
theorem op_bandnot : pI (fun i j => Builtin.bitAnd i j) (.int (a : Int)) (.int (Builtin.bitNot (b : Int))) = some (.int ((a - (a &&& b) : Nat) : Int)) := by
  rw [pI_int, band_not]
theorem op_inv : pInv (.int i) = some (.int (Builtin.bitNot i)) := rfl
theorem op_shl (h : a ≤ 1000) : pIC bPow (fun i j => i * 2 ^ j.toNat) (.int 1) (.int (a : Int)) = some (.int ((2 ^ a : Nat) : Int)) := by
  have h1 : bPow 1 (a : Int) = true := by
    unfold bPow
    rw [decide_eq_true (show (0 : Int) ≤ (a : Int) by omega), decide_eq_true (show (a : Int) ≤ 1000000 by omega)]
    rfl
  rw [pIC_int, h1, if_pos rfl, Int.toNat_natCast, Int.one_mul]
  congr 2
theorem op_shr : pIC bShr (fun i j => i / 2 ^ j.toNat) (.int (a : Int)) (.int (b : Int)) = some (.int ((a / 2 ^ b : Nat) : Int)) := by
  have h1 : bShr (a : Int) (b : Int) = true := decide_eq_true (by omega)
  rw [pIC_int, h1, if_pos rfl, Int.toNat_natCast]
  simp
theorem op_and1 : pI (fun i j => Builtin.bitAnd i j) (.int ((a / 2 ^ b : Nat) : Int)) (.int 1) = some (.int (((a.testBit b).toNat : Nat) : Int)) := by
  rw [pI_int]
  have := shr_test a b
  rw [Int.toNat_natCast] at this
  have e : ((a / 2 ^ b : Nat) : Int) = (a : Int) / 2 ^ b := by simp
  rw [e, this]
  cases a.testBit b <;> rfl
theorem op_eqB1 {t : Bool} : pEq (.int ((t.toNat : Nat) : Int)) (.int 1) = some (.bl t) := by cases t <;> rfl
theorem op_eqB0 {t : Bool} : pEq (.int ((t.toNat : Nat) : Int)) (.int 0) = some (.bl (!t)) := by cases t <;> rfl
theorem op_eqN : pEq (.int (a : Int)) (.int (b : Int)) = some (.bl (a == b)) := by
  rw [pEq_int]
  congr 2
  rw [Bool.eq_iff_iff, beq_iff_eq, beq_iff_eq]
  omega
theorem op_neN : pNe (.int (a : Int)) (.int (b : Int)) = some (.bl (!(a == b))) := by
  rw [pNe_int]
  congr 3
  rw [Bool.eq_iff_iff, beq_iff_eq, beq_iff_eq]
  omega
theorem op_eqN0 : pEq (.int (a : Int)) (.int 0) = some (.bl (a == 0)) := op_eqN (b := 0)
theorem op_neN0 : pNe (.int (a : Int)) (.int 0) = some (.bl (!(a == 0))) := op_neN (b := 0)
theorem op_eqI : pEq (.int i) (.int j) = some (.bl (i == j)) := rfl
theorem op_neI : pNe (.int i) (.int j) = some (.bl (!(i == j))) := rfl
theorem op_ltN : pIB (fun i j => decide (i < j)) (.int (a : Int)) (.int (b : Int)) = some (.bl (decide (a < b))) := by
  rw [pIB_int]
  congr 2
  rw [Bool.eq_iff_iff, decide_eq_true_eq, decide_eq_true_eq]
  omega
theorem op_leN : pIB (fun i j => decide (i ≤ j)) (.int (a : Int)) (.int (b : Int)) = some (.bl (decide (a ≤ b))) := by
  rw [pIB_int]
  congr 2
  rw [Bool.eq_iff_iff, decide_eq_true_eq, decide_eq_true_eq]
  omega
theorem op_gtN : pIB (fun i j => decide (j < i)) (.int (a : Int)) (.int (b : Int)) = some (.bl (decide (b < a))) := by
  rw [pIB_int]
  congr 2
  rw [Bool.eq_iff_iff, decide_eq_true_eq, decide_eq_true_eq]
  omega
theorem op_geN : pIB (fun i j => decide (j ≤ i)) (.int (a : Int)) (.int (b : Int)) = some (.bl (decide (b ≤ a))) := by
  rw [pIB_int]
  congr 2
  rw [Bool.eq_iff_iff, decide_eq_true_eq, decide_eq_true_eq]
  omega
theorem op_eqD (h : p.dat 60 = true) (h2 : q.dat 60 = true) : pEq p q = some (.bl (p.eqv q)) := by
  unfold pEq
  rw [h, h2]
  rfl
theorem op_neD (h : p.dat 60 = true) (h2 : q.dat 60 = true) : pNe p q = some (.bl (!p.eqv q)) := by
  unfold pNe
  rw [h, h2]
  rfl
def asc (x : List Nat) : Bool := x.all fun c => decide (c < 128)
theorem op_eqS (h : asc x = true) (h2 : asc y = true) : pEq (.str x) (.str y) = some (.bl (x == y)) := op_eqD (p := .str x) (q := .str y) h h2
theorem op_neS (h : asc x = true) (h2 : asc y = true) : pNe (.str x) (.str y) = some (.bl (!(x == y))) := op_neD (p := .str x) (q := .str y) h h2
theorem eqvL_txt : ∀ {l m : List (List Nat)}, eqvL (l.map P.str) (m.map P.str) = (l == m)
  | [], [] => rfl
  | [], _ :: _ => rfl
  | _ :: _, [] => rfl
  | a :: l, b :: m => by
    show (a == b && eqvL (l.map P.str) (m.map P.str)) = _
    rw [eqvL_txt]
    rfl
theorem eqvL_num : ∀ {l m : List Nat}, eqvL (l.map fun (e : Nat) => P.int (e : Int)) (m.map fun (e : Nat) => P.int (e : Int)) = (l == m)
  | [], [] => rfl
  | [], _ :: _ => rfl
  | _ :: _, [] => rfl
  | a :: l, b :: m => by
    show ((a : Int) == (b : Int) && eqvL (l.map fun (e : Nat) => P.int (e : Int)) (m.map fun (e : Nat) => P.int (e : Int))) = _
    rw [eqvL_num, List.cons_beq_cons]
    congr 1
    rw [Bool.eq_iff_iff, beq_iff_eq, beq_iff_eq]
    omega
theorem datL_of {A : Type} {f : A → P} {m : Nat} : ∀ {l : List A}, (∀ x ∈ l, (f x).dat m = true) → datL (l.map f) m = true
  | [], _ => rfl
  | a :: l, h => by
    show ((f a).dat m && datL (l.map f) m) = true
    rw [h a List.mem_cons_self, datL_of fun x hx => h x (List.mem_cons_of_mem _ hx)]
    rfl
theorem op_eqTS {l m : List (List Nat)} (h : ∀ x ∈ l, asc x = true) (h2 : ∀ x ∈ m, asc x = true) : pEq (.tup (l.map P.str)) (.tup (m.map P.str)) = some (.bl (l == m)) := by
  rw [op_eqD (p := .tup (l.map P.str)) (q := .tup (m.map P.str)) (datL_of h) (datL_of h2)]
  show some (P.bl (eqvL _ _)) = _
  rw [eqvL_txt]
theorem op_neTS {l m : List (List Nat)} (h : ∀ x ∈ l, asc x = true) (h2 : ∀ x ∈ m, asc x = true) : pNe (.tup (l.map P.str)) (.tup (m.map P.str)) = some (.bl (!(l == m))) := by
  rw [op_neD (p := .tup (l.map P.str)) (q := .tup (m.map P.str)) (datL_of h) (datL_of h2)]
  show some (P.bl (!eqvL _ _)) = _
  rw [eqvL_txt]
theorem eqvL_nil {l : List P} : eqvL l [] = l.isEmpty := by cases l <;> rfl
theorem op_neL0 {A : Type} {l : List A} {f : A → P} (h : ∀ x ∈ l, (f x).dat 59 = true) : pNe (.lst (l.map f)) (.lst []) = some (.bl (!l.isEmpty)) := by
  rw [op_neD (p := .lst (l.map f)) (q := .lst []) (datL_of h) rfl]
  show some (P.bl (!eqvL _ [])) = _
  rw [eqvL_nil]
  cases l <;> rfl
theorem op_eqL0 {A : Type} {l : List A} {f : A → P} (h : ∀ x ∈ l, (f x).dat 59 = true) : pEq (.lst (l.map f)) (.lst []) = some (.bl l.isEmpty) := by
  rw [op_eqD (p := .lst (l.map f)) (q := .lst []) (datL_of h) rfl]
  show some (P.bl (eqvL _ [])) = _
  rw [eqvL_nil]
  cases l <;> rfl
theorem op_neT0 {A : Type} {l : List A} {f : A → P} (h : ∀ x ∈ l, (f x).dat 59 = true) : pNe (.tup (l.map f)) (.tup []) = some (.bl (!l.isEmpty)) := by
  rw [op_neD (p := .tup (l.map f)) (q := .tup []) (datL_of h) rfl]
  show some (P.bl (!eqvL _ [])) = _
  rw [eqvL_nil]
  cases l <;> rfl
theorem op_eqT0 {A : Type} {l : List A} {f : A → P} (h : ∀ x ∈ l, (f x).dat 59 = true) : pEq (.tup (l.map f)) (.tup []) = some (.bl l.isEmpty) := by
  rw [op_eqD (p := .tup (l.map f)) (q := .tup []) (datL_of h) rfl]
  show some (P.bl (eqvL _ [])) = _
  rw [eqvL_nil]
  cases l <;> rfl

theorem flat_map {A : Type} {l : List A} {f : A → P} (h : ∀ x, flatP (f x) = true) : (l.map f).all flatP = true := by
  rw [List.all_map, List.all_eq_true]
  exact fun x _ => h x
theorem inP_strs {A : Type} {l : List A} {f : A → List Nat} : inP (.str x) (l.map fun z => P.str (f z)) = (l.map f).contains x := by
  induction l with
  | nil => rfl
  | cons z l ih =>
    show ((f z == x) || inP (.str x) (l.map fun z => P.str (f z))) = _
    rw [ih, List.map_cons, List.contains_cons]
    congr 1
    rw [Bool.eq_iff_iff, beq_iff_eq, beq_iff_eq]
    exact eq_comm
theorem inP_ns {A : Type} {l : List A} {f : A → Nat} : inP (.int (a : Int)) (l.map fun z => P.int ((f z : Nat) : Int)) = (l.map f).contains a := by
  induction l with
  | nil => rfl
  | cons z l ih =>
    show (((f z : Nat) : Int) == (a : Int) || inP (.int (a : Int)) (l.map fun z => P.int ((f z : Nat) : Int))) = _
    rw [ih, List.map_cons, List.contains_cons]
    congr 1
    rw [Bool.eq_iff_iff, beq_iff_eq, beq_iff_eq]
    omega
theorem pIn2_of {p q : P} {t : Bool} (h : pIn p q = some (.bl t)) : pIn2 p q = some (.bl t) := by
  unfold pIn2
  rw [h]
theorem pNotIn2_of {p q : P} {t : Bool} (h : pIn p q = some (.bl t)) : pNotIn2 p q = some (.bl (!t)) := by
  unfold pNotIn2 pNotIn
  rw [h]
theorem pin_l {p : P} {xs : List P} (h : flatP p = true) (h2 : xs.all flatP = true) : pIn p (.lst xs) = some (.bl (inP p xs)) := by
  unfold pIn
  dsimp only
  rw [h, h2]
  rfl
theorem pin_t {p : P} {xs : List P} (h : flatP p = true) (h2 : xs.all flatP = true) : pIn p (.tup xs) = some (.bl (inP p xs)) := by
  unfold pIn
  dsimp only
  rw [h, h2]
  rfl
section
variable {A : Type} {l : List A} {f : A → List Nat} {g : A → Nat}
theorem op_inSL : pIn2 (.str x) (.lst (l.map fun z => P.str (f z))) = some (.bl ((l.map f).contains x)) := pIn2_of ((pin_l rfl (flat_map fun _ => rfl)).trans (by rw [inP_strs]))
theorem op_inST : pIn2 (.str x) (.tup (l.map fun z => P.str (f z))) = some (.bl ((l.map f).contains x)) := pIn2_of ((pin_t rfl (flat_map fun _ => rfl)).trans (by rw [inP_strs]))
theorem op_inNL : pIn2 (.int (a : Int)) (.lst (l.map fun z => P.int ((g z : Nat) : Int))) = some (.bl ((l.map g).contains a)) := pIn2_of ((pin_l rfl (flat_map fun _ => rfl)).trans (by rw [inP_ns]))
theorem op_niSL : pNotIn2 (.str x) (.lst (l.map fun z => P.str (f z))) = some (.bl (!(l.map f).contains x)) := pNotIn2_of ((pin_l rfl (flat_map fun _ => rfl)).trans (by rw [inP_strs]))
theorem op_niST : pNotIn2 (.str x) (.tup (l.map fun z => P.str (f z))) = some (.bl (!(l.map f).contains x)) := pNotIn2_of ((pin_t rfl (flat_map fun _ => rfl)).trans (by rw [inP_strs]))
theorem op_niNL : pNotIn2 (.int (a : Int)) (.lst (l.map fun z => P.int ((g z : Nat) : Int))) = some (.bl (!(l.map g).contains a)) := pNotIn2_of ((pin_l rfl (flat_map fun _ => rfl)).trans (by rw [inP_ns]))
end
theorem op_inSL' {l : List (List Nat)} : pIn2 (.str x) (.lst (l.map P.str)) = some (.bl (l.contains x)) := by
  have := op_inSL (x := x) (l := l) (f := id)
  rw [List.map_id] at this
  exact this
theorem op_inST' {l : List (List Nat)} : pIn2 (.str x) (.tup (l.map P.str)) = some (.bl (l.contains x)) := by
  have := op_inST (x := x) (l := l) (f := id)
  rw [List.map_id] at this
  exact this
theorem op_inNL' {l : List Nat} : pIn2 (.int (a : Int)) (.lst (l.map fun (z : Nat) => P.int (z : Int))) = some (.bl (l.contains a)) := by
  have := op_inNL (a := a) (l := l) (g := id)
  rw [List.map_id] at this
  exact this
theorem op_niSL' {l : List (List Nat)} : pNotIn2 (.str x) (.lst (l.map P.str)) = some (.bl (!l.contains x)) := by
  have := op_niSL (x := x) (l := l) (f := id)
  rw [List.map_id] at this
  exact this
theorem op_niST' {l : List (List Nat)} : pNotIn2 (.str x) (.tup (l.map P.str)) = some (.bl (!l.contains x)) := by
  have := op_niST (x := x) (l := l) (f := id)
  rw [List.map_id] at this
  exact this
theorem op_niNL' {l : List Nat} : pNotIn2 (.int (a : Int)) (.lst (l.map fun (z : Nat) => P.int (z : Int))) = some (.bl (!l.contains a)) := by
  have := op_niNL (a := a) (l := l) (g := id)
  rw [List.map_id] at this
  exact this

theorem op_lenL : pLen [.lst xs] = some (.int ((xs.length : Nat) : Int)) := rfl
theorem op_lenT : pLen [.tup xs] = some (.int ((xs.length : Nat) : Int)) := rfl
theorem op_lenLm {A : Type} {l : List A} {f : A → P} : pLen [.lst (l.map f)] = some (.int ((l.length : Nat) : Int)) := by
  rw [op_lenL, List.length_map]
theorem op_lenTm {A : Type} {l : List A} {f : A → P} : pLen [.tup (l.map f)] = some (.int ((l.length : Nat) : Int)) := by
  rw [op_lenT, List.length_map]
theorem op_lenS (h : x.length ≤ 100000) : pLen [.str x] = some (.int ((x.length : Nat) : Int)) := by
  rw [pLen_str, if_pos h]
theorem op_tupL : pTuple [.lst xs] = some (.tup xs) := rfl
theorem op_tupT : pTuple [.tup xs] = some (.tup xs) := rfl
theorem op_lstL : pList [.lst xs] = some (.lst xs) := rfl
theorem op_lstT : pList [.tup xs] = some (.lst xs) := rfl
theorem intsOf_m {A : Type} {l : List A} {f : A → Int} : intsOf (l.map fun z => P.int (f z)) = some (l.map f) := by
  induction l with
  | nil => rfl
  | cons a l ih =>
    show (intsOf (l.map fun z => P.int (f z))).map (f a :: ·) = _
    rw [ih]
    rfl
theorem blsOf_m {A : Type} {l : List A} {f : A → Bool} : blsOf (l.map fun z => P.bl (f z)) = some (l.map f) := by
  induction l with
  | nil => rfl
  | cons a l ih =>
    show (blsOf (l.map fun z => P.bl (f z))).map (f a :: ·) = _
    rw [ih]
    rfl
theorem sum_natm {A : Type} (l : List A) (f : A → Nat) : (l.map fun z => ((f z : Nat) : Int)).sum = (((l.map f).sum : Nat) : Int) := by
  induction l with
  | nil => rfl
  | cons a l ih =>
    rw [List.map_cons, List.sum_cons, ih, List.map_cons, List.sum_cons]
    omega
theorem op_sum {A : Type} {l : List A} {f : A → Nat} : pSum [.lst (l.map fun z => P.int ((f z : Nat) : Int))] = some (.int (((l.map f).sum : Nat) : Int)) := by
  show (intsOf (l.map fun z => P.int ((f z : Nat) : Int))).map _ = _
  rw [intsOf_m (f := fun z => ((f z : Nat) : Int))]
  show some (P.int _) = _
  rw [sum_natm]
theorem op_all {A : Type} {l : List A} {f : A → Bool} : pAll [.lst (l.map fun z => P.bl (f z))] = some (.bl (l.all f)) := by
  show (blsOf (l.map fun z => P.bl (f z))).map _ = _
  rw [blsOf_m]
  show some (P.bl ((l.map f).all id)) = _
  rw [List.all_map]
  rfl
theorem op_any {A : Type} {l : List A} {f : A → Bool} : pAny [.lst (l.map fun z => P.bl (f z))] = some (.bl (l.any f)) := by
  show (blsOf (l.map fun z => P.bl (f z))).map _ = _
  rw [blsOf_m]
  show some (P.bl ((l.map f).any id)) = _
  rw [List.any_map]
  rfl

theorem at_m0 {A : Type} {l : List A} {f : A → P} [Inhabited A] (h : a < l.length) : atI (l.map f) (a : Int) = some (f (l.getD a default)) := by
  refine atN ?_
  rw [List.getElem?_map, List.getElem?_eq_getElem h]
  simp [h]
theorem at_ms {A : Type} {l : List (List A)} {f : List A → P} (h : a < l.length) : atI (l.map f) (a : Int) = some (f (l.getD a [])) := at_m0 h
theorem at_mn {l : List Nat} {f : Nat → P} (h : a < l.length) : atI (l.map f) (a : Int) = some (f (l.getD a 0)) := at_m0 h
theorem ix_ls {A : Type} {l : List (List A)} {f : List A → P} (h : a < l.length) : pIx (.lst (l.map f)) (.int (a : Int)) = some (f (l.getD a [])) := at_ms h
theorem ix_ln {l : List Nat} {f : Nat → P} (h : a < l.length) : pIx (.lst (l.map f)) (.int (a : Int)) = some (f (l.getD a 0)) := at_mn h
theorem ix_lm {A : Type} {l : List A} {f : A → P} [Inhabited A] (h : a < l.length) : pIx (.lst (l.map f)) (.int (a : Int)) = some (f (l.getD a default)) := at_m0 h
theorem ix_ts {A : Type} {l : List (List A)} {f : List A → P} (h : a < l.length) : pIx (.tup (l.map f)) (.int (a : Int)) = some (f (l.getD a [])) := at_ms h
theorem ix_l0 : pIx (.lst (p :: xs)) (.int 0) = some p := atI_0 _ _
theorem ix_l1 {p2 : P} : pIx (.lst (p :: p2 :: xs)) (.int 1) = some p2 := atI_1 _ _ _
theorem ix_l2 {p2 p3 : P} : pIx (.lst (p :: p2 :: p3 :: xs)) (.int 2) = some p3 := atI_2 _ _ _ _
theorem atI_3 {A : Type} (x y z w : A) (xs : List A) : atI (x :: y :: z :: w :: xs) 3 = some w := atN (i := 3) rfl
theorem ix_l3 {p2 p3 p4 : P} : pIx (.lst (p :: p2 :: p3 :: p4 :: xs)) (.int 3) = some p4 := atI_3 _ _ _ _ _
theorem ix_t0 : pIx (.tup (p :: xs)) (.int 0) = some p := atI_0 _ _
theorem ix_t1 {p2 : P} : pIx (.tup (p :: p2 :: xs)) (.int 1) = some p2 := atI_1 _ _ _
theorem ix_t2 {p2 p3 : P} : pIx (.tup (p :: p2 :: p3 :: xs)) (.int 2) = some p3 := atI_2 _ _ _ _
theorem ix_t3 {p2 p3 p4 : P} : pIx (.tup (p :: p2 :: p3 :: p4 :: xs)) (.int 3) = some p4 := atI_3 _ _ _ _ _
theorem fr_p {S : Sto} : frz (.p p) S = .ok p S := frz_p _ _
end
mutual
theorem P.eqv_self : ∀ (x : P) (m : Nat), x.dat m = true → x.eqv x = true
  | .non, _, _ => rfl
  | .bl b, _, _ => by show (b == b) = true; simp
  | .int i, _, _ => by show (i == i) = true; simp
  | .str x, _, _ => by show (x == x) = true; simp
  | .lst xs, 0, h => by cases h
  | .lst xs, m + 1, h => eqvL_self xs m h
  | .tup xs, 0, h => by cases h
  | .tup xs, m + 1, h => eqvL_self xs m h
  | .dct _ _, _, h => by cases h
  | .obj _ _ _, _, h => by cases h
  | .ty _, _, h => by cases h
  | .glo _, _, h => by cases h
  | .raw _, _, h => by cases h
  | .rwp _ _, _, h => by cases h
  | .scr _, _, h => by cases h
theorem eqvL_self : ∀ (xs : List P) (m : Nat), datL xs m = true → eqvL xs xs = true
  | [], _, _ => rfl
  | x :: xs, m, h => by
    have h : (x.dat m && datL xs m) = true := h
    rw [Bool.and_eq_true] at h
    show (x.eqv x && eqvL xs xs) = true
    rw [P.eqv_self x m h.1, eqvL_self xs m h.2]
    rfl
end
theorem op_eqX {x : P} (h : x.dat 60 = true) : pEq x x = some (.bl true) := by
  rw [op_eqD h h, P.eqv_self x 60 h]
theorem op_neX {x : P} (h : x.dat 60 = true) : pNe x x = some (.bl false) := by
  rw [op_neD h h, P.eqv_self x 60 h]
  rfl
end Mir

namespace Mir
open PySem L2
def WS (r : RF) (Q : Fl → Sto → Prop) : Prop := ∃ f S, r = .ok f S ∧ Q f S
section
variable {ρ ρ1 ρ2 : En} {S S1 S2 S3 : Sto} {a b c : ME} {t u : MT} {m r : MA} {s s' : MS} {x y z w : P} {d e v : Vl} {ds es : List Vl} {xs ys : List P} {Q : Fl → Sto → Prop}
theorem ws_of {f : Fl} (h : s ρ S = .ok f S1) (q : Q f S1) : WS (s ρ S) Q := ⟨f, S1, h, q⟩
theorem ws_seq (h : s ρ S = .ok (.nx ρ1) S1) (q : WS (s' ρ1 S1) Q) : WS (sSeq s s' ρ S) Q := by
  obtain ⟨f, S2, e, q⟩ := q
  exact ⟨f, S2, ev_seq h (thn_n e), q⟩
theorem ws_seqW (h : WS (s ρ S) fun f S1 => ∃ ρ1, f = .nx ρ1 ∧ WS (s' ρ1 S1) Q) : WS (sSeq s s' ρ S) Q := by
  obtain ⟨f, S1, e1, ρ1, rfl, f, S2, e, q⟩ := h
  exact ⟨f, S2, ev_seq e1 (thn_n e), q⟩
theorem ws_for {it : MI} {g : MG} (I : Nat → En → Sto → Prop) (hi : it ρ S = .ok xs S1) (h0 : I 0 ρ S1)
    (hs : ∀ i x ρ S, xs[i]? = some x → I i ρ S → ∃ ρ1 S1, g (.p x) ρ S = .ok ρ1 S1 ∧ WS (s ρ1 S1) fun f S2 => ∃ ρ2, (f = .nx ρ2 ∨ f = .ct ρ2) ∧ I (i + 1) ρ2 S2)
    (hq : ∀ ρ' S', I xs.length ρ' S' → Q (.nx ρ') S') : WS (sFor it g s ρ S) Q := by
  have key : ∀ (zs : List P) (k : Nat) (ρ : En) (S : Sto), xs.drop k = zs → I k ρ S → ∃ ρ' S', forGo g s zs ρ S = .ok (.nx ρ') S' ∧ I (k + zs.length) ρ' S' := by
    intro zs
    induction zs with
    | nil => exact fun k ρ S _ h => ⟨ρ, S, rfl, h⟩
    | cons z zs ih =>
      intro k ρ S hd h
      have hz : xs[k]? = some z := by
        have := congrArg (fun l : List P => l[0]?) hd
        simpa using this
      have hd2 : xs.drop (k + 1) = zs := by
        rw [← List.drop_drop, hd]
        rfl
      obtain ⟨ρ1, S1, e1, f, S2, e2, ρ2, e3, h2⟩ := hs k z ρ S hz h
      obtain ⟨ρ', S', e4, h4⟩ := ih (k + 1) ρ2 S2 hd2 h2
      refine ⟨ρ', S', ?_, by rw [List.length_cons, show k + (zs.length + 1) = k + 1 + zs.length by omega]; exact h4⟩
      rw [forGo_cons, e1, nox_ok, go_ok, e2]
      rcases e3 with rfl | rfl <;> exact e4
  obtain ⟨ρ', S', e, h⟩ := key xs 0 ρ S1 rfl h0
  rw [Nat.zero_add] at h
  exact ⟨.nx ρ', S', by rw [sFor_eq, hi, go_ok, e], hq ρ' S' h⟩
theorem ws_forM {A : Type} {it : MI} {g : MG} {us : List A} {en : A → P} (I : Nat → En → Sto → Prop) (hi : it ρ S = .ok (us.map en) S1) (h0 : I 0 ρ S1)
    (hs : ∀ i u ρ S, us[i]? = some u → I i ρ S → ∃ ρ1 S1, g (.p (en u)) ρ S = .ok ρ1 S1 ∧ WS (s ρ1 S1) fun f S2 => ∃ ρ2, (f = .nx ρ2 ∨ f = .ct ρ2) ∧ I (i + 1) ρ2 S2)
    (hq : ∀ ρ' S', I us.length ρ' S' → Q (.nx ρ') S') : WS (sFor it g s ρ S) Q := by
  refine ws_for I hi h0 (fun i x ρ S hx hI => ?_) fun ρ' S' h => hq ρ' S' (by rw [List.length_map] at h; exact h)
  rw [List.getElem?_map] at hx
  cases hu : us[i]? with
  | none => rw [hu] at hx; cases hx
  | some u =>
    rw [hu] at hx
    cases hx
    exact hs i u ρ S hu hI
theorem ws_rng {it : MI} {g : MG} {n : Nat} (I : Nat → En → Sto → Prop) (hi : it ρ S = .ok ((List.range n).map fun (k : Nat) => P.int (k : Int)) S1) (h0 : I 0 ρ S1)
    (hs : ∀ i ρ S, i < n → I i ρ S → ∃ ρ1 S1, g (.p (.int (i : Int))) ρ S = .ok ρ1 S1 ∧ WS (s ρ1 S1) fun f S2 => ∃ ρ2, (f = .nx ρ2 ∨ f = .ct ρ2) ∧ I (i + 1) ρ2 S2)
    (hq : ∀ ρ' S', I n ρ' S' → Q (.nx ρ') S') : WS (sFor it g s ρ S) Q := by
  refine ws_forM I hi h0 (fun i u ρ S hu hI => ?_) fun ρ' S' h => hq ρ' S' (by rw [List.length_range] at h; exact h)
  have hin : i < n := by
    have := (List.getElem?_eq_some_iff.mp hu).1
    rwa [List.length_range] at this
  rw [List.getElem?_range hin] at hu
  cases hu
  exact hs i ρ S hin hI
theorem ws_mkFe {n k : Nat} {body : MS} {o : Res Vl} (hl : ds.length = n) (hρ : ds.map some ++ List.replicate k none = ρ) (h : WS (body ρ S) fun f S1 => endF S.length (.ok f S1) = o) : mkF n k body ds S = o := by
  obtain ⟨f, S1, e, e2⟩ := h
  exact ev_mkF hl hρ e e2
end
end Mir

namespace Mir
open PySem L2
section
variable {ρ ρ0 ρ1 ρ2 : En} {S S1 S2 S3 : Sto} {a b c : ME} {t u : MT} {m r : MA} {s s' : MS} {x y z w : P} {d e v : Vl} {ds es : List Vl} {xs ys : List P}
theorem rng_1 : itRange1 (eC (.int 1)) ρ S = .ok [.int 0] S := rfl
theorem rng_2 : itRange1 (eC (.int 2)) ρ S = .ok [.int 0, .int 1] S := rfl
theorem rng_3 : itRange1 (eC (.int 3)) ρ S = .ok [.int 0, .int 1, .int 2] S := rfl
theorem rng_4 : itRange1 (eC (.int 4)) ρ S = .ok [.int 0, .int 1, .int 2, .int 3] S := rfl
theorem rng_5 : itRange1 (eC (.int 5)) ρ S = .ok [.int 0, .int 1, .int 2, .int 3, .int 4] S := rfl
theorem rng_6 : itRange1 (eC (.int 6)) ρ S = .ok [.int 0, .int 1, .int 2, .int 3, .int 4, .int 5] S := rfl
theorem rng_8 : itRange1 (eC (.int 8)) ρ S = .ok [.int 0, .int 1, .int 2, .int 3, .int 4, .int 5, .int 6, .int 7] S := rfl
theorem lcx_s {g : MG} {q : Bool} (hg : g (.p x) ρ S = .ok ρ1 S) (ht : t ρ1 S = .ok q S) (ha : q = true → a ρ1 S = .ok (.p y) S) (hr : lcGo g t a ρ xs S = .ok ys S) : lcGo g t a ρ (x :: xs) S = .ok ((if q then [y] else []) ++ ys) S := by
  cases q with
  | false =>
    unfold lcGo
    rw [hg, nox_ok, bind_ok, ht, nox_ok, bind_ok]
    exact hr
  | true =>
    unfold lcGo
    rw [hg, nox_ok, bind_ok, ht, nox_ok, bind_ok]
    dsimp only
    rw [ha rfl, nox_ok, bind_ok, frz_p, bind_ok, hr, bind_ok]
    rfl

theorem ev_forx {it : MI} {g : MG} {o : RF} (hi : it ρ S = .ok xs S1) (hg : forGo g s xs ρ S1 = o) : sFor it g s ρ S = o := by
  rw [sFor_eq, hi, go_ok, hg]
theorem forx_nil {g : MG} : forGo g s [] ρ S = .ok (.nx ρ) S := rfl
theorem forx_cons {g : MG} {o : RF} (hg : g (.p x) ρ S = .ok ρ1 S1) (hs : s ρ1 S1 = .ok (.nx ρ2) S2) (hr : forGo g s xs ρ2 S2 = o) : forGo g s (x :: xs) ρ S = o := by
  rw [forGo_cons, hg, nox_ok, go_ok, hs]
  exact hr
theorem ev_enumN {ls : List Nat} {f : Nat → P} (ha : a ρ S = .ok (.p (.lst (ls.map f))) S1) : itEnum a ρ S = .ok ((List.range ls.length).map fun (i : Nat) => P.tup [.int (i : Int), f (ls.getD i 0)]) S1 := ev_enum_map ha
theorem ev_enumS {B : Type} {ls : List (List B)} {f : List B → P} (ha : a ρ S = .ok (.p (.lst (ls.map f))) S1) : itEnum a ρ S = .ok ((List.range ls.length).map fun (i : Nat) => P.tup [.int (i : Int), f (ls.getD i [])]) S1 := ev_enum_map ha
theorem isi_t {cs : List PySem.Str} {T : Tg} (h : isT cs T y = some true) : isT cs T y = some true := h
theorem isi_f {cs : List PySem.Str} {T : Tg} (h : isT cs T y = some false) : isT cs T y = some false := h

theorem lcGo2_gen {A B : Type} {g : MG} {it1 : MI} {vs1 : List Nat} {g1 : MG} {t1 : MT} {en : A → P} {q : A → Bool} {ρ1 : A → En} {us : A → List B} {en1 : A → B → P} {ρ1' : A → En} {ρ2 : A → B → En} {q1 : A → B → Bool} {f : A → B → P} : ∀ (ls : List A),
    (∀ y ∈ ls, g (.p (en y)) ρ0 S = .ok (ρ1 y) S) → (∀ y ∈ ls, t (ρ1 y) S = .ok (q y) S) → (∀ y ∈ ls, q y = true → it1 (ρ1 y) S = .ok ((us y).map (en1 y)) S) → (∀ y ∈ ls, q y = true → (us y).length ≤ 4000) → (∀ y ∈ ls, wipeE (ρ1 y) vs1 = ρ1' y) →
    (∀ y ∈ ls, q y = true → ∀ z ∈ us y, g1 (.p (en1 y z)) (ρ1' y) S = .ok (ρ2 y z) S) → (∀ y ∈ ls, q y = true → ∀ z ∈ us y, t1 (ρ2 y z) S = .ok (q1 y z) S) → (∀ y ∈ ls, q y = true → ∀ z ∈ us y, q1 y z = true → a (ρ2 y z) S = .ok (.p (f y z)) S) →
    lcGo2 g t it1 vs1 g1 t1 a ρ0 (ls.map en) S = .ok ((ls.filter q).flatMap fun y => ((us y).filter (q1 y)).map (f y)) S
  | [], _, _, _, _, _, _, _, _ => rfl
  | y :: ls, h1, h2, h3, h4, h5, h6, h7, h8 => by
    have m0 : y ∈ y :: ls := List.mem_cons_self
    have ih := lcGo2_gen ls (fun z hz => h1 z (List.mem_cons_of_mem _ hz)) (fun z hz => h2 z (List.mem_cons_of_mem _ hz)) (fun z hz => h3 z (List.mem_cons_of_mem _ hz)) (fun z hz => h4 z (List.mem_cons_of_mem _ hz)) (fun z hz => h5 z (List.mem_cons_of_mem _ hz)) (fun z hz => h6 z (List.mem_cons_of_mem _ hz)) (fun z hz => h7 z (List.mem_cons_of_mem _ hz)) (fun z hz => h8 z (List.mem_cons_of_mem _ hz))
    rw [List.map_cons]
    unfold lcGo2
    rw [h1 y m0, nox_ok, bind_ok, h2 y m0, nox_ok, bind_ok]
    cases hq : q y with
    | false =>
      dsimp only
      rw [ih, List.filter_cons_of_neg (by rw [hq]; decide)]
    | true =>
      dsimp only
      rw [h3 y m0 hq, nox_ok, bind_ok, if_pos (by rw [List.length_map]; exact h4 y m0 hq), h5 y m0]
      rw [lcGo_gen (en1 y) (q1 y) (f y) (us y) fun z hz => ⟨ρ2 y z, h6 y m0 hq z hz, h7 y m0 hq z hz, h8 y m0 hq z hz⟩, bind_ok, ih, bind_ok, List.filter_cons_of_pos hq, List.flatMap_cons]
theorem ev_lc2 {A B : Type} {it : MI} {vs : List Nat} {g : MG} {it1 : MI} {vs1 : List Nat} {g1 : MG} {ls : List A} {en : A → P} {ρ1 : A → En} {us : A → List B} {en1 : A → B → P} {ρ1' : A → En} {ρ2 : A → B → En} {f : A → B → P} (hi : it ρ S = .ok (ls.map en) S1) (hl : ls.length ≤ 4000) (hw : wipeE ρ vs = ρ0)
    (hg : ∀ y, y ∈ ls → g (.p (en y)) ρ0 S1 = .ok (ρ1 y) S1) (hi1 : ∀ y, y ∈ ls → it1 (ρ1 y) S1 = .ok ((us y).map (en1 y)) S1) (hl1 : ∀ y, y ∈ ls → (us y).length ≤ 4000) (hw1 : ∀ y, y ∈ ls → wipeE (ρ1 y) vs1 = ρ1' y)
    (hg1 : ∀ y, y ∈ ls → ∀ z, z ∈ us y → g1 (.p (en1 y z)) (ρ1' y) S1 = .ok (ρ2 y z) S1) (he : ∀ y, y ∈ ls → ∀ z, z ∈ us y → a (ρ2 y z) S1 = .ok (.p (f y z)) S1) :
    eLc2 it vs g tsYes it1 vs1 g1 tsYes a ρ S = .ok (.p (.lst (ls.flatMap fun y => (us y).map (f y)))) S1 := by
  subst hw
  unfold eLc2
  rw [hi, bind_ok, if_pos (by rw [List.length_map]; exact hl)]
  have := lcGo2_gen (a := a) (t := tsYes) (t1 := tsYes) (q := fun _ => true) (q1 := fun _ _ => true) (it1 := it1) (vs1 := vs1) ls (fun y hy => hg y hy) (fun y hy => rfl) (fun y hy _ => hi1 y hy) (fun y hy _ => hl1 y hy) hw1 (fun y hy _ z hz => hg1 y hy z hz) (fun y hy _ z hz => rfl) (fun y hy _ z hz _ => he y hy z hz)
  rw [this, bind_ok]
  have e1 : ls.filter (fun _ => true) = ls := List.filter_eq_self.mpr fun _ _ => rfl
  have e2 : ∀ y, (us y).filter (fun _ => true) = us y := fun y => List.filter_eq_self.mpr fun _ _ => rfl
  simp only [e1, e2]
end
section
variable {p q : Bool} {x : P} {a : Nat} {xs : List P}
theorem op_eqB : pEq (.bl p) (.bl q) = some (.bl (p == q)) := rfl
theorem op_neB : pNe (.bl p) (.bl q) = some (.bl (!(p == q))) := rfl
theorem op_niB {A : Type} {l : List A} {f : A → Bool} : pNotIn2 (.bl false) (.lst (l.map fun z => P.bl (f z))) = some (.bl (l.all f)) := by
  have h : ∀ l : List A, inP (.bl false) (l.map fun z => P.bl (f z)) = !(l.all f) := by
    intro l
    induction l with
    | nil => rfl
    | cons z l ih =>
      show ((f z == false) || inP (.bl false) (l.map fun z => P.bl (f z))) = _
      rw [ih, List.all_cons]
      cases f z <;> rfl
  rw [pNotIn2_of (t := !(l.all f)) ((pin_l rfl (flat_map fun _ => rfl)).trans (by rw [h])), Bool.not_not]
theorem op_all2 {A B : Type} {l : List A} {us : A → List B} {f : A → B → Bool} : pAll [.lst (l.flatMap fun y => (us y).map fun z => P.bl (f y z))] = some (.bl (l.all fun y => (us y).all (f y))) := by
  have e : (l.flatMap fun y => (us y).map fun z => P.bl (f y z)) = (l.flatMap fun y => (us y).map (f y)).map P.bl := by
    rw [List.map_flatMap]
    simp [List.map_map, Function.comp_def]
  rw [e]
  have := op_all (l := l.flatMap fun y => (us y).map (f y)) (f := fun b => b)
  rw [this]
  congr 2
  rw [List.all_flatMap]
  simp [List.all_map, Function.comp_def]
theorem ix_l4 {p1 p2 p3 p4 p5 : P} : pIx (.lst (p1 :: p2 :: p3 :: p4 :: p5 :: xs)) (.int 4) = some p5 := atN (i := 4) rfl
theorem ix_l5 {p1 p2 p3 p4 p5 p6 : P} : pIx (.lst (p1 :: p2 :: p3 :: p4 :: p5 :: p6 :: xs)) (.int 5) = some p6 := atN (i := 5) rfl
theorem eqc_t {x y : P} (h : pEq x y = some (.bl true)) : pEq x y = some (.bl true) := h
theorem eqc_f {x y : P} (h : pEq x y = some (.bl false)) : pEq x y = some (.bl false) := h
theorem nec_t {x y : P} (h : pNe x y = some (.bl true)) : pNe x y = some (.bl true) := h
theorem nec_f {x y : P} (h : pNe x y = some (.bl false)) : pNe x y = some (.bl false) := h
theorem inc_t {x y : P} (h : pIn2 x y = some (.bl true)) : pIn2 x y = some (.bl true) := h
theorem inc_f {x y : P} (h : pIn2 x y = some (.bl false)) : pIn2 x y = some (.bl false) := h
theorem nic_t {x y : P} (h : pNotIn2 x y = some (.bl true)) : pNotIn2 x y = some (.bl true) := h
theorem nic_f {x y : P} (h : pNotIn2 x y = some (.bl false)) : pNotIn2 x y = some (.bl false) := h
theorem op_is {a b : Bool} : pIs (.bl a) (.bl b) = some (.bl (decide (a = b))) := rfl
theorem op_isNot {a b : Bool} : pIsNot (.bl a) (.bl b) = some (.bl (!decide (a = b))) := rfl
theorem ev_rgL {ρ : En} {S S1 : Sto} {m : ME} {n : Nat} (h : m ρ S = .ok (.p (.int (n : Int))) S1) (hn : n ≤ 100000) : eRgL m ρ S = .ok (.p (.lst ((List.range n).map fun (k : Nat) => P.int (k : Int)))) S1 := by
  unfold eRgL
  rw [h, bind_ok]
  dsimp only
  rw [if_pos ⟨by omega, by omega⟩, Int.toNat_natCast, rangeP_0]
end
end Mir

namespace Mir
open PySem L2
section
variable {a b : Nat} {x p : P} {xs : List P} {i : Int}
theorem op_sub1 (h : 1 ≤ a) : pI (fun i j => i - j) (.int (a : Int)) (.int 1) = some (.int ((a - 1 : Nat) : Int)) := by
  rw [pI_int]
  congr 2
  omega
theorem op_subN (h : b ≤ a) : pI (fun i j => i - j) (.int (a : Int)) (.int (b : Int)) = some (.int ((a - b : Nat) : Int)) := by
  rw [pI_int]
  congr 2
  omega
theorem op_modN (h : 0 < b) : pIC bMod (fun i j => i % j) (.int (a : Int)) (.int (b : Int)) = some (.int ((a % b : Nat) : Int)) := by
  have : bMod (a : Int) (b : Int) = true := bMod_of (by omega)
  rw [pIC_int, this, if_pos rfl, Int.natCast_emod]
theorem op_int : pInt [.int i] = some (.int i) := rfl
theorem op_neg1 : pNeg (.int 1) = some (.int (-1)) := rfl
theorem op_neg : pNeg (.int i) = some (.int (-i)) := rfl
theorem op_mul2 : pMul (.lst [x]) (.int 2) = some (.lst [x, x]) := rfl
theorem op_eqL1 {l : List Nat} : pEq (.lst (l.map fun (e : Nat) => P.int (e : Int))) (.lst [.int (a : Int)]) = some (.bl (l == [a])) := by
  rw [op_eqD (p := .lst (l.map fun (e : Nat) => P.int (e : Int))) (q := .lst [.int (a : Int)]) (datL_of fun _ _ => rfl) rfl]
  show some (P.bl (eqvL (l.map fun (e : Nat) => P.int (e : Int)) ([a].map fun (e : Nat) => P.int (e : Int)))) = _
  rw [eqvL_num]
theorem cutP_init {A : Type} (l : List A) : cutP l none (some (-1)) = l.dropLast := by
  unfold cutP
  have e0 : HT.sIx l.length 0 none = 0 := rfl
  have e1 : HT.sIx l.length l.length (some (-1)) = l.length - 1 := by
    unfold HT.sIx
    simp
    omega
  rw [e0, e1, List.drop_zero, Nat.sub_zero, List.dropLast_eq_take]
theorem op_init {A : Type} {l : List A} {f : A → P} : pSl none (some (-1)) (.lst (l.map f)) = some (.lst ((l.dropLast).map f)) := by
  show some (P.lst (cutP (l.map f) none (some (-1)))) = _
  rw [cutP_init, List.map_dropLast]
end
end Mir

namespace Mir
open PySem L2
mutual
def P.sz : P → Nat
  | .non => 4
  | .bl _ => 5
  | .int i => (Str.ofString (toString i)).length
  | .str x => 10 * x.length + 2
  | .lst xs => szL xs + 4
  | .tup xs => szL xs + 4
  | _ => 4
def szL : List P → Nat
  | [] => 0
  | x :: xs => x.sz + 2 + szL xs
end
theorem join_len (s : Str) : ∀ ts : List Str, (s.join ts).length ≤ (ts.map fun t => t.length + s.length).sum
  | [] => by
    rw [Str.join.eq_1]
    exact Nat.zero_le _
  | [t] => by
    rw [Str.join.eq_2]
    simp
  | t :: u :: r => by
    have ih := join_len s (u :: r)
    rw [Str.join.eq_3]
    · rw [List.map_cons, List.sum_cons]
      simp only [Str.length_append]
      omega
    all_goals simp
theorem listText_le (ts : List Str) : (listText ts).length ≤ (ts.map fun t => t.length + 2).sum + 4 := by
  have h := join_len (Str.ofString ", ") ts
  have e : (Str.ofString ", ").length = 2 := by decide
  have e1 : (Str.ofString "[").length = 1 := by decide
  have e2 : (Str.ofString "]").length = 1 := by decide
  rw [listText_eq_join]
  simp only [Str.length_append, e, e1, e2] at h ⊢
  omega
theorem tupleText_le (ts : List Str) : (tupleText ts).length ≤ (ts.map fun t => t.length + 2).sum + 4 := by
  have h := join_len (Str.ofString ", ") ts
  have e : (Str.ofString ", ").length = 2 := by decide
  have e1 : (Str.ofString "(").length = 1 := by decide
  have e2 : (Str.ofString (if (ts.length == 1) = true then ",)" else ")")).length ≤ 2 := by
    split <;> decide
  unfold tupleText
  simp only [Str.length_append, e, e1] at h ⊢
  omega
mutual
theorem shown_len : ∀ (x : P) (m : Nat), x.dat m = true → x.toD.shown.length ≤ x.sz
  | .non, m, _ => by show (Str.ofString "None").length ≤ 4; decide
  | .bl b, m, _ => by
    show (if b = true then Str.ofString "True" else Str.ofString "False").length ≤ 5
    cases b <;> decide
  | .int i, m, _ => by
    show (PyData.int i).shown.length ≤ _
    rw [PyData.shown.eq_3]
    exact Nat.le_refl _
  | .str x, m, h => by
    have h : (x.all fun c => decide (c < 128)) = true := h
    show (PyData.str (strOf x)).shown.length ≤ 10 * x.length + 2
    rw [PyData.shown.eq_4]
    have := StrLaws.reprText_len (strOf x) fun c hc => by
      have hc : c ∈ x := by simpa [strOf] using hc
      have := of_decide_eq_true (List.all_eq_true.mp h c hc)
      exact Nat.lt_of_lt_of_le this (by decide)
    have e : (strOf x).length = x.length := by simp [strOf, Str.length]
    rw [e] at this
    exact this
  | .lst xs, 0, h => by cases h
  | .lst xs, m + 1, h => by
    show (PyData.list (toDL xs)).shown.length ≤ szL xs + 4
    rw [PyData.shown.eq_5]
    have := listText_le (PyData.shownAll (toDL xs))
    have := shownL_len xs m h
    omega
  | .tup xs, 0, h => by cases h
  | .tup xs, m + 1, h => by
    show (PyData.tuple (toDL xs)).shown.length ≤ szL xs + 4
    rw [PyData.shown.eq_6]
    have := tupleText_le (PyData.shownAll (toDL xs))
    have := shownL_len xs m h
    omega
  | .dct _ _, m, h => by cases h
  | .obj _ _ _, m, h => by cases h
  | .ty _, m, h => by cases h
  | .glo _, m, h => by cases h
  | .raw _, m, h => by cases h
  | .rwp _ _, m, h => by cases h
  | .scr _, m, h => by cases h
theorem shownL_len : ∀ (xs : List P) (m : Nat), datL xs m = true → ((PyData.shownAll (toDL xs)).map fun t => t.length + 2).sum ≤ szL xs
  | [], m, _ => by
    show ((PyData.shownAll []).map fun t => t.length + 2).sum ≤ 0
    rw [PyData.shownAll.eq_1]
    exact Nat.le_refl _
  | x :: xs, m, h => by
    have h : (x.dat m && datL xs m) = true := h
    rw [Bool.and_eq_true] at h
    have h1 := shown_len x m h.1
    have h2 := shownL_len xs m h.2
    show ((PyData.shownAll (x.toD :: toDL xs)).map fun t => t.length + 2).sum ≤ x.sz + 2 + szL xs
    rw [PyData.shownAll.eq_2, List.map_cons, List.sum_cons]
    omega
end
theorem reprP_len {x : P} (h : x.dat 60 = true) : (reprP x).length ≤ x.sz := by
  have := shown_len x 60 h
  have e : (reprP x).length = x.toD.shown.length := by
    unfold reprP
    rw [Array.length_toList]
    rfl
  rw [e]
  exact this
theorem szL_map {A : Type} {f : A → P} {c : Nat} : ∀ {l : List A}, (∀ x ∈ l, (f x).sz ≤ c) → szL (l.map f) ≤ l.length * (c + 2)
  | [], _ => Nat.zero_le _
  | a :: l, h => by
    have h1 := h a List.mem_cons_self
    have h2 := szL_map (f := f) (l := l) fun x hx => h x (List.mem_cons_of_mem _ hx)
    show (f a).sz + 2 + szL (l.map f) ≤ _
    rw [List.length_cons, Nat.add_mul]
    omega
theorem op_reprL {xs : List P} (h : (P.lst xs).dat 60 = true) (h2 : (P.lst xs).toD.showable = true) (h3 : (P.lst xs).sz ≤ 100000) : pRepr [.lst xs] = some (.str (reprP (.lst xs))) := by
  unfold pRepr
  dsimp only
  rw [h, h2]
  have := reprP_len h
  rw [if_pos (by rw [decide_eq_true (Nat.le_trans this h3)]; rfl)]
def Sm (s : Str) : Prop := ∀ c ∈ s.cps.toList, c < 128
theorem Sm.app {s t : Str} (h : Sm s) (h' : Sm t) : Sm (s ++ t) := fun c hc => by
  have e : (s ++ t).cps = s.cps ++ t.cps := rfl
  rw [e, Array.toList_append, List.mem_append] at hc
  exact hc.elim (h c) (h' c)
theorem Sm.join {s : Str} (h : Sm s) : ∀ {ts : List Str}, (∀ t ∈ ts, Sm t) → Sm (s.join ts)
  | [], _ => by
    rw [Str.join.eq_1]
    intro c hc
    cases hc
  | [t], h' => by
    rw [Str.join.eq_2]
    exact h' t List.mem_cons_self
  | t :: u :: r, h' => by
    rw [Str.join.eq_3 _ _ _ (by simp)]
    exact ((h' t List.mem_cons_self).app h).app (Sm.join h fun x hx => h' x (List.mem_cons_of_mem _ hx))
theorem reprC_small : ∀ c, c < 128 → ((Builtin.Str.reprChar 39 c).all fun d => decide (d < 128)) = true ∧ ((Builtin.Str.reprChar 34 c).all fun d => decide (d < 128)) = true := by
  decide +kernel
theorem quote_cases (x : Str) : reprQuote x = 39 ∨ reprQuote x = 34 := by
  unfold reprQuote
  split <;> simp
theorem foldC_small {q : Nat} (hq : q = 39 ∨ q = 34) : ∀ (l : List Nat) (acc : Array Nat), (∀ c ∈ l, c < 128) → (∀ c ∈ acc.toList, c < 128) → ∀ c ∈ (l.foldl (fun out c => out ++ (Builtin.Str.reprChar q c).toArray) acc).toList, c < 128
  | [], acc, _, h => h
  | a :: l, acc, hl, h => by
    refine foldC_small hq l _ (fun c hc => hl c (List.mem_cons_of_mem _ hc)) fun c hc => ?_
    rw [Array.toList_append, List.mem_append] at hc
    rcases hc with hc | hc
    · exact h c hc
    · have ha := reprC_small a (hl a List.mem_cons_self)
      rcases hq with rfl | rfl
      · exact of_decide_eq_true (List.all_eq_true.mp ha.1 c (by simpa using hc))
      · exact of_decide_eq_true (List.all_eq_true.mp ha.2 c (by simpa using hc))
theorem reprText_small {x : Str} (h : Sm x) : Sm (reprText x) := by
  have hq := quote_cases x
  have hq2 : reprQuote x < 128 := by rcases hq with e | e <;> rw [e] <;> decide
  intro c hc
  unfold reprText at hc
  simp only [Array.toList_push, List.mem_append, List.mem_singleton] at hc
  rcases hc with hc | hc
  · rw [← Array.foldl_toList] at hc
    refine foldC_small hq x.cps.toList #[reprQuote x] h (fun c hc => ?_) c hc
    have : c = reprQuote x := by simpa using hc
    rw [this]; exact hq2
  · rw [hc]; exact hq2
theorem sm_of {t : String} (h : ((Str.ofString t).cps.toList.all fun d => decide (d < 128)) = true) : Sm (Str.ofString t) := fun c hc => of_decide_eq_true (List.all_eq_true.mp h c hc)
end Mir

namespace Mir
open PySem L2
mutual
def P.nInt : P → Bool
  | .int i => (Str.ofString (toString i)).cps.toList.all fun d => decide (d < 128)
  | .lst xs => nIntL xs
  | .tup xs => nIntL xs
  | _ => true
def nIntL : List P → Bool
  | [] => true
  | x :: xs => x.nInt && nIntL xs
end
mutual
theorem shown_small2 : ∀ (x : P) (m : Nat), x.dat m = true → x.nInt = true → Sm x.toD.shown
  | .non, m, _, _ => sm_of (by decide)
  | .bl b, m, _, _ => by
    show Sm (if b = true then Str.ofString "True" else Str.ofString "False")
    cases b
    · exact sm_of (by decide)
    · exact sm_of (by decide)
  | .int i, m, _, h => by
    show Sm (PyData.int i).shown
    rw [PyData.shown.eq_3]
    exact sm_of h
  | .str x, m, h, _ => by
    have h : (x.all fun c => decide (c < 128)) = true := h
    show Sm (PyData.str (strOf x)).shown
    rw [PyData.shown.eq_4]
    refine reprText_small fun c hc => ?_
    have hc : c ∈ x := by simpa [strOf] using hc
    exact of_decide_eq_true (List.all_eq_true.mp h c hc)
  | .lst xs, 0, h, _ => by cases h
  | .lst xs, m + 1, h, n => by
    show Sm (PyData.list (toDL xs)).shown
    rw [PyData.shown.eq_5, listText_eq_join]
    exact ((sm_of (by decide)).app (Sm.join (sm_of (by decide)) (shownL_small2 xs m h n))).app (sm_of (by decide))
  | .tup xs, 0, h, _ => by cases h
  | .tup xs, m + 1, h, n => by
    show Sm (PyData.tuple (toDL xs)).shown
    rw [PyData.shown.eq_6]
    unfold tupleText
    refine ((sm_of (by decide)).app (Sm.join (sm_of (by decide)) (shownL_small2 xs m h n))).app ?_
    split
    · exact sm_of (by decide)
    · exact sm_of (by decide)
  | .dct _ _, m, h, _ => by cases h
  | .obj _ _ _, m, h, _ => by cases h
  | .ty _, m, h, _ => by cases h
  | .glo _, m, h, _ => by cases h
  | .raw _, m, h, _ => by cases h
  | .rwp _ _, m, h, _ => by cases h
  | .scr _, m, h, _ => by cases h
theorem shownL_small2 : ∀ (xs : List P) (m : Nat), datL xs m = true → nIntL xs = true → ∀ t ∈ PyData.shownAll (toDL xs), Sm t
  | [], m, _, _ => by
    show ∀ t ∈ PyData.shownAll [], Sm t
    rw [PyData.shownAll.eq_1]
    intro t ht
    cases ht
  | x :: xs, m, h, n => by
    have h : (x.dat m && datL xs m) = true := h
    have n : (x.nInt && nIntL xs) = true := n
    rw [Bool.and_eq_true] at h n
    show ∀ t ∈ PyData.shownAll (x.toD :: toDL xs), Sm t
    rw [PyData.shownAll.eq_2]
    intro t ht
    rcases List.mem_cons.mp ht with rfl | ht
    · exact shown_small2 x m h.1 n.1
    · exact shownL_small2 xs m h.2 n.2 t ht
end
theorem reprP_asc2 {x : P} (h : x.dat 60 = true) (n : x.nInt = true) : asc (reprP x) = true := by
  unfold asc
  rw [List.all_eq_true]
  intro c hc
  exact decide_eq_true (shown_small2 x 60 h n c hc)
end Mir

namespace Mir
open PySem L2
section
variable {ρ ρ1 ρ2 : En} {S S1 S2 S3 S4 : Sto} {a b o i v : ME} {m r : MA} {t : MT} {s : MS} {x y z : P} {d e : Vl} {ds es : List Vl} {xs ys : List P}
theorem ev_tupT (hm : m ρ S = .ok ds S1) (hf : frzs ds S1 = .ok xs S2) (hl : xs.length ≤ 100000) : eTupT m ρ S = .ok (.c S2.length) (S2 ++ [.tup xs]) := by
  unfold eTupT
  rw [hm, bind_ok, hf, bind_ok, if_pos hl]
theorem ev_notInT {q q' : Bool} (ha : a ρ S = .ok d S1) (hb : b ρ S1 = .ok e S2) (h : dHas S2 d e = some q) (hn : (!q) = q') : eNotInT a b ρ S = .ok (.p (.bl q')) S2 := by
  unfold eNotInT
  rw [ha, bind_ok, hb, bind_ok, h]
  dsimp only
  rw [hn]
theorem ev_itemT (ho : o ρ S = .ok e S1) (hi : i ρ S1 = .ok d S2) (h : dAt S2 d e = some x) : eItemT o i ρ S = .ok (.p x) S2 := by
  unfold eItemT
  rw [ho, bind_ok, hi, bind_ok, h]
theorem ev_putT (hv : v ρ S = .ok (.p x) S1) (ho : o ρ S1 = .ok e S2) (hi : i ρ S2 = .ok d S3) (h : dPut S3 d e x = some S4) : sPutT v o i ρ S = .ok (.nx ρ) S4 := by
  unfold sPutT
  rw [hv, go_ok, ho, go_ok, hi, go_ok, frz_p, go_ok, h]
theorem ev_astar (hm : a ρ S = .ok d S1) (hd : rd S1 d = some (.tup xs)) (hr : r ρ S1 = .ok ds S2) : aStar a r ρ S = .ok (xs.map Vl.p ++ ds) S2 := by
  unfold aStar
  rw [hm, bind_ok, hd]
  dsimp only
  rw [hr, bind_ok]
theorem app_p {k : Nat} (h : S[k]? = some (.lst xs)) (hl : xs.length < 100000) : fApp (.c k) [.p z] S = .ok (.p .non) (S.set k (.lst (xs ++ [z]))) := by
  unfold fApp
  dsimp only
  rw [h]
  dsimp only
  rw [frz_p, bind_ok]
  rw [h]
  dsimp only
  rw [if_pos hl]
theorem frz_tup {k : Nat} (h : S[k]? = some (.tup ys)) : frz (.c k) S = .ok (.tup ys) S := by
  unfold frz frzN
  dsimp only
  rw [h]
theorem app_t {k j : Nat} (h : S[k]? = some (.lst xs)) (hj : S[j]? = some (.tup ys)) (hl : xs.length < 100000) : fApp (.c k) [.c j] S = .ok (.p .non) (S.set k (.lst (xs ++ [.tup ys]))) := by
  unfold fApp
  dsimp only
  rw [h]
  dsimp only
  rw [frz_tup hj, bind_ok]
  rw [h]
  dsimp only
  rw [if_pos hl]
theorem pop_l {k : Nat} (h : S[k]? = some (.lst (xs ++ [z]))) : fPop (.c k) [] S = .ok (.p z) (S.set k (.lst xs)) := by
  unfold fPop
  dsimp only
  rw [h]
  dsimp only
  have e : (xs ++ [z])[(xs ++ [z]).length - 1]? = some z := by simp
  rw [e]
  dsimp only
  rw [List.dropLast_concat]
theorem isL_c {k : Nat} (h : S[k]? = some (.lst xs)) : isL S (.c k) = true := by
  unfold isL
  dsimp only
  rw [h]
theorem ixN_last (n : Nat) : ixN (n + 1) (-1) = some n := by
  unfold ixN
  rw [if_neg (by decide), if_pos (by omega)]
  congr 1
  omega
theorem at_last {A : Type} {xs : List A} {z : A} : atI (xs ++ [z]) (-1) = some z := by
  unfold atI
  have e : (xs ++ [z]).length = xs.length + 1 := by simp
  rw [e, ixN_last]
  simp
theorem setV_last {k : Nat} {w : P} (h : S[k]? = some (.lst (xs ++ [z]))) : setV (.c k) (.p (.int (-1))) (.p w) S = .ok () (S.set k (.lst (xs ++ [w]))) := by
  unfold setV
  dsimp only
  rw [h]
  dsimp only
  rw [frz_p, bind_ok]
  rw [h]
  dsimp only
  have e : (xs ++ [z]).length = xs.length + 1 := by simp
  rw [e, ixN_last]
  dsimp only
  rw [List.set_append_right _ _ (Nat.le_refl _), Nat.sub_self, List.set_cons_zero]
theorem wh_end {n : Nat} (h : t ρ S = .ok false S1) : whGo t s (n + 1) ρ S = .ok (.nx ρ) S1 := by
  unfold whGo
  rw [h, go_ok]
theorem wh_ret {n : Nat} (h : t ρ S = .ok true S1) (hs : s ρ S1 = .ok (.rt d) S2) : whGo t s (n + 1) ρ S = .ok (.rt d) S2 := by
  unfold whGo
  rw [h, go_ok]
  dsimp only
  rw [hs]
theorem wh_step {n : Nat} (h : t ρ S = .ok true S1) (hs : s ρ S1 = .ok (.nx ρ1) S2) : whGo t s (n + 1) ρ S = whGo t s n ρ1 S2 := by
  conv => lhs; unfold whGo
  rw [h, go_ok]
  dsimp only
  rw [hs]
end
end Mir

namespace Mir
open PySem L2
section
variable {ρ : En} {S S1 S2 S3 : Sto} {a b : ME} {m : MA} {d e v : Vl} {ds : List Vl} {c : PySem.Str} {g : MF} {y : List Nat} {q : Bool}
end
end Mir

namespace Pl
open Mir
abbrev Row := Nat × List Nat
def rwPs (r : Row) : List P := .str [r.1] :: nums r.2
def rwP (r : Row) : P := .tup (rwPs r)
def rwK (r : Row) : List (Int ⊕ List Nat) := .inr [r.1] :: r.2.map fun (n : Nat) => .inl (n : Int)
theorem kys_nums : ∀ l : List Nat, kysOf (nums l) = some (l.map fun (n : Nat) => .inl (n : Int))
  | [] => rfl
  | n :: l => by
    have ih := kys_nums l
    show ((kyOf (.int (n : Int))).bind fun a => (kysOf (nums l)).map (a :: ·)) = _
    rw [ih]
    rfl
theorem kys_row (r : Row) : kysOf (rwPs r) = some (rwK r) := by
  show ((kyOf (.str [r.1])).bind fun a => (kysOf (nums r.2)).map (a :: ·)) = _
  rw [kys_nums]
  rfl
theorem inls_inj : ∀ {l m : List Nat}, (l.map fun (n : Nat) => (Sum.inl (n : Int) : Int ⊕ List Nat)) = (m.map fun (n : Nat) => .inl (n : Int)) → l = m
  | [], [], _ => rfl
  | [], _ :: _, h => by cases h
  | _ :: _, [], h => by cases h
  | a :: l, b :: m, h => by
    rw [List.map_cons, List.map_cons] at h
    obtain ⟨h1, h2⟩ := List.cons.inj h
    have h1 := Sum.inl.inj h1
    have h1 : a = b := by omega
    rw [h1, inls_inj h2]
theorem rwK_inj {r r' : Row} (h : rwK r = rwK r') : r = r' := by
  obtain ⟨s, l⟩ := r
  obtain ⟨s', l'⟩ := r'
  obtain ⟨h1, h2⟩ := List.cons.inj h
  have h1 := Sum.inr.inj h1
  have h1 : s = s' := (List.cons.inj h1).1
  have h2 : l = l' := inls_inj h2
  rw [h1, h2]
def numL (L : List Row) (r : Row) : List Row := if r ∈ L then L else L ++ [r]
theorem atKy_row (r : Row) : ∀ (L : List Row) (b : Nat), atKy (rwK r) (L.map rwK) ((List.range' b L.length).map fun (n : Nat) => P.int (n : Int)) = if r ∈ L then some (P.int ((b + L.idxOf r : Nat) : Int)) else none
  | [], b => by
    rw [if_neg (by simp)]
    rfl
  | x :: L, b => by
    have ih := atKy_row r L (b + 1)
    rw [List.length_cons, List.range'_succ, List.map_cons, List.map_cons]
    show (if rwK x = rwK r then some (P.int (b : Int)) else atKy (rwK r) (L.map rwK) ((List.range' (b + 1) L.length).map fun (n : Nat) => P.int (n : Int))) = _
    by_cases hx : x = r
    · subst hx
      rw [if_pos rfl, if_pos List.mem_cons_self, List.idxOf_cons_self, Nat.add_zero]
    · rw [if_neg (fun z => hx (rwK_inj z)), ih]
      have e : (x == r) = false := by simpa using hx
      by_cases hr : r ∈ L
      · rw [if_pos hr, if_pos (List.mem_cons_of_mem _ hr), List.idxOf_cons, e]
        have : b + 1 + List.idxOf r L = b + (List.idxOf r L + 1) := by omega
        rw [this]
        rfl
      · rw [if_neg hr, if_neg]
        intro z
        rcases List.mem_cons.mp z with z | z
        · exact hx z.symm
        · exact hr z
structure PSt where
  told : Option Nat
  op : List Row
  pos : Nat
  L : List Row
def plainS : List Nat := [120, 121, 122, 48, 49]
def deedS : List Nat := [99, 105, 110]
def stepT (tx : List Nat) (q : PSt) : Option PSt :=
  let sg := tx.getD q.pos 0
  match q.told with
  | none =>
    if sg ∈ plainS then some ⟨some (q.L.idxOf (sg, [])), q.op, q.pos + 1, numL q.L (sg, [])⟩
    else if sg ∈ deedS ∧ (tx.drop (q.pos + 1)).take 1 = [40] then some ⟨none, (sg, []) :: q.op, q.pos + 2, q.L⟩
    else if sg = 40 then some ⟨none, (40, []) :: q.op, q.pos + 1, q.L⟩
    else none
  | some r => match q.op with
    | [] => none
    | f :: op =>
      if sg = 41 ∧ f.1 ≠ 40 then some ⟨some (q.L.idxOf (f.1, f.2 ++ [r])), op, q.pos + 1, numL q.L (f.1, f.2 ++ [r])⟩
      else if f = (40, []) ∧ ((tx.drop q.pos).take 3 = [32, 38, 32] ∨ (tx.drop q.pos).take 3 = [32, 124, 32]) then some ⟨none, (tx.getD (q.pos + 1) 0, [r]) :: op, q.pos + 3, q.L⟩
      else none
def runT (tx : List Nat) : Nat → PSt → Option PSt
  | 0, _ => none
  | n + 1, q => if q.pos < tx.length then (match stepT tx q with
    | some q' => runT tx n q'
    | none => none) else some q
def endT (o : Option PSt) : Option (Nat × List Row) := match o with
  | some ⟨some r, [], _, L⟩ => some (r, L)
  | _ => none
def readT (tx : List Nat) (L : List Row) : Option (Nat × List Row) := endT (runT tx 1000 ⟨none, [], 0, L⟩)
inductive Tr
  | leaf (s : Nat)
  | un (s : Nat) (t : Tr)
  | bin (s : Nat) (t u : Tr)
namespace Tr
def txt : Tr → List Nat
  | leaf s => [s]
  | un s t => s :: 40 :: (t.txt ++ [41])
  | bin s t u => 40 :: (t.txt ++ (32 :: s :: 32 :: (u.txt ++ [41])))
def toP : Tr → P
  | leaf s => .tup [.str [s]]
  | un s t => .tup [.str [s], t.toP]
  | bin s t u => .tup [.str [s], t.toP, u.toP]
def ok (ls : List Nat) : Tr → Prop
  | leaf s => s ∈ ls ∨ s = 48 ∨ s = 49
  | un s t => s ∈ deedS ∧ t.ok ls
  | bin s t u => (s = 38 ∨ s = 124) ∧ t.ok ls ∧ u.ok ls
def dep : Tr → Nat
  | leaf _ => 0
  | un _ t => t.dep + 1
  | bin _ t u => max t.dep u.dep + 1
def Den (L : List Row) : Nat → Tr → Prop
  | r, leaf s => L[r]? = some (s, [])
  | r, un s t => ∃ a, L[r]? = some (s, [a]) ∧ a < r ∧ Den L a t
  | r, bin s t u => ∃ a b, L[r]? = some (s, [a, b]) ∧ a < r ∧ b < r ∧ Den L a t ∧ Den L b u
end Tr
structure Rows_ (L : List Row) : Prop where
  nd : L.Nodup
  lt : ∀ (i : Nat) (r : Row), L[i]? = some r → ∀ a ∈ r.2, a < i
theorem numL_pre (L : List Row) (r : Row) : L <+: numL L r := by
  unfold numL
  split
  · exact List.prefix_refl _
  · exact List.prefix_append _ _
theorem numL_at (L : List Row) (r : Row) : (numL L r)[L.idxOf r]? = some r := by
  unfold numL
  by_cases h : r ∈ L
  · rw [if_pos h]
    have := List.idxOf_lt_length_of_mem h
    rw [List.getElem?_eq_getElem this, List.getElem_idxOf]
  · rw [if_neg h, List.idxOf_eq_length h]
    simp
theorem numL_rows {L : List Row} {r : Row} (h : Rows_ L) (hr : ∀ a ∈ r.2, a < L.length) : Rows_ (numL L r) := by
  unfold numL
  by_cases hm : r ∈ L
  · rw [if_pos hm]; exact h
  · rw [if_neg hm]
    refine ⟨List.nodup_append.mpr ⟨h.nd, by simp, fun a ha b hb hab => ?_⟩, fun i x hi a ha => ?_⟩
    · have : b = r := by simpa using hb
      subst this
      subst hab
      exact hm ha
    · by_cases hl : i < L.length
      · rw [List.getElem?_append_left hl] at hi
        exact h.lt i x hi a ha
      · rw [List.getElem?_append_right (by omega)] at hi
        cases e : i - L.length with
        | zero =>
          rw [e] at hi
          have : r = x := by simpa using hi
          subst this
          have := hr a ha
          omega
        | succ n => rw [e] at hi; simp at hi
theorem numL_len (L : List Row) (r : Row) : (numL L r).length ≤ L.length + 1 := by
  unfold numL
  split
  · omega
  · simp
theorem pre_at {L M : List Row} {i : Nat} {r : Row} (h : L <+: M) (hi : L[i]? = some r) : M[i]? = some r := by
  obtain ⟨N, rfl⟩ := h
  rw [List.getElem?_append_left (List.getElem?_eq_some_iff.mp hi).1]
  exact hi
theorem Tr.Den.mono {L M : List Row} (h : L <+: M) : ∀ {t : Tr} {r : Nat}, Tr.Den L r t → Tr.Den M r t
  | .leaf s, r, d => pre_at h d
  | .un s t, r, d => by
    obtain ⟨a, h1, h2, h3⟩ := d
    exact ⟨a, pre_at h h1, h2, Tr.Den.mono h h3⟩
  | .bin s t u, r, d => by
    obtain ⟨a, b, h1, h2, h3, h4, h5⟩ := d
    exact ⟨a, b, pre_at h h1, h2, h3, Tr.Den.mono h h4, Tr.Den.mono h h5⟩
theorem Tr.Den.lt {L : List Row} : ∀ {t : Tr} {r : Nat}, Tr.Den L r t → r < L.length
  | .leaf s, r, d => (List.getElem?_eq_some_iff.mp d).1
  | .un s t, r, d => by obtain ⟨a, h1, _⟩ := d; exact (List.getElem?_eq_some_iff.mp h1).1
  | .bin s t u, r, d => by obtain ⟨a, b, h1, _⟩ := d; exact (List.getElem?_eq_some_iff.mp h1).1
theorem getD_at {tx w : List Nat} {i c : Nat} (h : tx.drop i = c :: w) : tx.getD i 0 = c ∧ i < tx.length := by
  have hl : i < tx.length := by
    apply Decidable.byContradiction
    intro z
    rw [List.drop_eq_nil_of_le (by omega)] at h
    cases h
  have e := List.drop_eq_getElem_cons hl
  rw [e] at h
  refine ⟨?_, hl⟩
  rw [List.getD_eq_getElem?_getD, List.getElem?_eq_getElem hl]
  exact (List.cons.inj h).1
theorem drop_more {tx u w : List Nat} {i : Nat} (h : tx.drop i = u ++ w) : tx.drop (i + u.length) = w := by
  rw [← List.drop_drop, h, List.drop_left']
  rfl
theorem run_step {tx : List Nat} {q q' : PSt} {n : Nat} (hl : q.pos < tx.length) (h : stepT tx q = some q') : runT tx (n + 1) q = runT tx n q' := by
  show (if q.pos < tx.length then (match stepT tx q with
    | some q' => runT tx n q'
    | none => none) else some q) = _
  rw [if_pos hl, h]
def steps : Tr → Nat
  | .leaf _ => 1
  | .un _ t => steps t + 2
  | .bin _ t u => steps t + steps u + 3
theorem steps_le : ∀ t : Tr, steps t ≤ t.txt.length
  | .leaf _ => Nat.le_refl _
  | .un s t => by
    have := steps_le t
    show steps t + 2 ≤ (s :: 40 :: (t.txt ++ [41])).length
    simp
    omega
  | .bin s t u => by
    have := steps_le t
    have := steps_le u
    show steps t + steps u + 3 ≤ (40 :: (t.txt ++ (32 :: s :: 32 :: (u.txt ++ [41])))).length
    simp
    omega
def gdR (ls : List Nat) (x : Row) : Prop := (x.1 ∈ ls ∧ x.2 = []) ∨ ((x.1 = 48 ∨ x.1 = 49) ∧ x.2 = []) ∨ (x.1 ∈ deedS ∧ ∃ a, x.2 = [a]) ∨ ((x.1 = 38 ∨ x.1 = 124) ∧ ∃ a b, x.2 = [a, b])
theorem numL_mem {L : List Row} {r x : Row} (h : x ∈ numL L r) : x ∈ L ∨ x = r := by
  unfold numL at h
  split at h
  · exact .inl h
  · rcases List.mem_append.mp h with z | z
    · exact .inl z
    · exact .inr (by simpa using z)
theorem run_term {ls : List Nat} (hls : ∀ s ∈ ls, s = 120 ∨ s = 121 ∨ s = 122) {tx : List Nat} : ∀ (t : Tr) (w : List Nat) (i n : Nat) (op : List Row) (L : List Row), t.ok ls → tx.drop i = t.txt ++ w → Rows_ L →
    ∃ r M, (∀ n, runT tx (steps t + n) ⟨none, op, i, L⟩ = runT tx n ⟨some r, op, i + t.txt.length, M⟩) ∧ L <+: M ∧ Rows_ M ∧ Tr.Den M r t ∧ M.length ≤ L.length + t.txt.length ∧ ∀ x ∈ M, x ∈ L ∨ gdR ls x
  | .leaf s, w, i, n, op, L, hk, hx, hL => by
    obtain ⟨e, hl⟩ := getD_at (c := s) (w := w) hx
    have hs : s ∈ plainS := by
      rcases hk with z | z | z
      · rcases hls s z with z | z | z <;> rw [z] <;> decide
      · rw [z]; decide
      · rw [z]; decide
    refine ⟨L.idxOf (s, []), numL L (s, []), fun n => ?_, numL_pre _ _, numL_rows hL (fun a ha => by cases ha), numL_at _ _, ?_⟩
    · show runT tx (1 + n) _ = _
      rw [Nat.add_comm]
      refine run_step hl ?_
      unfold stepT
      dsimp only
      rw [e, if_pos hs]
      rfl
    · refine ⟨numL_len _ _, fun x hx => ?_⟩
      rcases numL_mem hx with z | z
      · exact .inl z
      · rw [z]
        rcases hk with y | y
        · exact .inr (.inl ⟨y, rfl⟩)
        · exact .inr (.inr (.inl ⟨y, rfl⟩))
  | .un s t, w, i, n, op, L, hk, hx, hL => by
    obtain ⟨hs, hk⟩ := hk
    have hx : tx.drop i = s :: 40 :: (t.txt ++ (41 :: w)) := by
      rw [hx]
      show s :: 40 :: (t.txt ++ [41]) ++ w = _
      simp
    obtain ⟨e, hl⟩ := getD_at hx
    have hx1 : tx.drop (i + 1) = 40 :: (t.txt ++ (41 :: w)) := drop_more (u := [s]) hx
    have hx2 : tx.drop (i + 2) = t.txt ++ (41 :: w) := drop_more (u := [s, 40]) hx
    obtain ⟨r, M, h1, h2, h3, h4, h5, h6⟩ := run_term hls t (41 :: w) (i + 2) n ((s, []) :: op) L hk hx2 hL
    have hx3 : tx.drop (i + 2 + t.txt.length) = 41 :: w := drop_more hx2
    obtain ⟨e3, hl3⟩ := getD_at hx3
    have hs40 : s ≠ 40 := by
      intro z
      rw [z] at hs
      revert hs
      decide
    have hsp : ¬ s ∈ plainS := by
      intro z
      unfold deedS at hs
      unfold plainS at z
      simp at hs z
      omega
    have hlen : (Tr.un s t).txt.length = t.txt.length + 3 := by
      show (s :: 40 :: (t.txt ++ [41])).length = _
      simp
    have hrw := numL_rows (r := (s, [r])) h3 (fun a ha => by
      have : a = r := by simpa using ha
      rw [this]
      exact h4.lt)
    refine ⟨M.idxOf (s, [r]), numL M (s, [r]), fun n => ?_, h2.trans (numL_pre _ _), hrw, ⟨r, numL_at _ _, ?_, h4.mono (numL_pre _ _)⟩, ?_⟩
    · have e0 : steps (Tr.un s t) + n = (steps t + (n + 1)) + 1 := by show steps t + 2 + n = _; omega
      rw [e0, run_step (q' := ⟨none, (s, []) :: op, i + 2, L⟩) hl, h1, run_step (q' := ⟨some (M.idxOf (s, [r])), op, i + 2 + t.txt.length + 1, numL M (s, [r])⟩) hl3]
      · rw [hlen]
        have : i + 2 + t.txt.length + 1 = i + (t.txt.length + 3) := by omega
        rw [this]
      · unfold stepT
        dsimp only
        rw [e3, if_pos ⟨rfl, hs40⟩]
        rfl
      · unfold stepT
        dsimp only
        rw [e, if_neg hsp, if_pos ⟨hs, by rw [hx1]; rfl⟩]
    · exact hrw.lt _ _ (numL_at M (s, [r])) r (by simp)
    · have := numL_len M (s, [r])
      rw [hlen]
      refine ⟨by omega, fun x hx => ?_⟩
      rcases numL_mem hx with z | z
      · exact h6 x z
      · rw [z]
        exact .inr (.inr (.inr (.inl ⟨hs, r, rfl⟩)))
  | .bin s t u, w, i, n, op, L, hk, hx, hL => by
    obtain ⟨hs, hk, hk2⟩ := hk
    have hx : tx.drop i = 40 :: (t.txt ++ (32 :: s :: 32 :: (u.txt ++ (41 :: w)))) := by
      rw [hx]
      show 40 :: (t.txt ++ (32 :: s :: 32 :: (u.txt ++ [41]))) ++ w = _
      simp
    obtain ⟨e, hl⟩ := getD_at hx
    have hx1 : tx.drop (i + 1) = t.txt ++ (32 :: s :: 32 :: (u.txt ++ (41 :: w))) := drop_more (u := [40]) hx
    obtain ⟨r, M, h1, h2, h3, h4, h5, h6⟩ := run_term hls t _ (i + 1) n ((40, []) :: op) L hk hx1 hL
    have hx2 : tx.drop (i + 1 + t.txt.length) = 32 :: s :: 32 :: (u.txt ++ (41 :: w)) := drop_more hx1
    obtain ⟨e2, hl2⟩ := getD_at hx2
    have hx2' : tx.drop (i + 1 + t.txt.length + 1) = s :: 32 :: (u.txt ++ (41 :: w)) := drop_more (u := [32]) hx2
    obtain ⟨e2', _⟩ := getD_at hx2'
    have hx3 : tx.drop (i + 1 + t.txt.length + 3) = u.txt ++ (41 :: w) := drop_more (u := [32, s, 32]) hx2
    obtain ⟨r2, M2, g1, g2, g3, g4, g5, g6⟩ := run_term hls u _ (i + 1 + t.txt.length + 3) n ((s, [r]) :: op) M hk2 hx3 h3
    have hx4 : tx.drop (i + 1 + t.txt.length + 3 + u.txt.length) = 41 :: w := drop_more hx3
    obtain ⟨e4, hl4⟩ := getD_at hx4
    have hs40 : s ≠ 40 := by omega
    have hlen : (Tr.bin s t u).txt.length = t.txt.length + u.txt.length + 5 := by
      show (40 :: (t.txt ++ (32 :: s :: 32 :: (u.txt ++ [41])))).length = _
      simp
      omega
    have hlt : r < M2.length := (h4.mono g2).lt
    have hin : ∀ a ∈ ((s, [r, r2]) : Row).2, a < M2.length := fun a ha => by
      have : a = r ∨ a = r2 := by simpa using ha
      rcases this with z | z
      · rw [z]; exact hlt
      · rw [z]; exact g4.lt
    have hrw := numL_rows (r := (s, [r, r2])) g3 hin
    refine ⟨M2.idxOf (s, [r, r2]), numL M2 (s, [r, r2]), fun n => ?_, (h2.trans g2).trans (numL_pre _ _), hrw, ⟨r, r2, numL_at _ _, hrw.lt _ _ (numL_at M2 _) r (by simp), hrw.lt _ _ (numL_at M2 _) r2 (by simp), (h4.mono g2).mono (numL_pre _ _), g4.mono (numL_pre _ _)⟩, ?_⟩
    · have e0 : steps (Tr.bin s t u) + n = (steps t + ((steps u + (n + 1)) + 1)) + 1 := by show steps t + steps u + 3 + n = _; omega
      rw [e0, run_step (q' := ⟨none, (40, []) :: op, i + 1, L⟩) hl, h1, run_step (q' := ⟨none, (s, [r]) :: op, i + 1 + t.txt.length + 3, M⟩) hl2, g1, run_step (q' := ⟨some (M2.idxOf (s, [r, r2])), op, i + 1 + t.txt.length + 3 + u.txt.length + 1, numL M2 (s, [r, r2])⟩) hl4]
      · rw [hlen]
        have : i + 1 + t.txt.length + 3 + u.txt.length + 1 = i + (t.txt.length + u.txt.length + 5) := by omega
        rw [this]
      · unfold stepT
        dsimp only
        rw [e4, if_pos ⟨rfl, hs40⟩]
        rfl
      · unfold stepT
        dsimp only
        have hz : (tx.drop (i + 1 + t.txt.length)).take 3 = [32, 38, 32] ∨ (tx.drop (i + 1 + t.txt.length)).take 3 = [32, 124, 32] := by
          rw [hx2]
          rcases hs with z | z
          · left; rw [z]; rfl
          · right; rw [z]; rfl
        rw [e2, if_neg (by decide), if_pos ⟨rfl, hz⟩, e2']
      · unfold stepT
        dsimp only
        rw [e, if_neg (by decide), if_neg (fun z => absurd z.1 (by decide)), if_pos rfl]
    · have := numL_len M2 (s, [r, r2])
      rw [hlen]
      refine ⟨by omega, fun x hx => ?_⟩
      rcases numL_mem hx with z | z
      · rcases g6 x z with y | y
        · exact h6 x y
        · exact .inr y
      · rw [z]
        exact .inr (.inr (.inr (.inr ⟨hs, r, r2, rfl⟩)))
theorem read_term {ls : List Nat} (hls : ∀ s ∈ ls, s = 120 ∨ s = 121 ∨ s = 122) {t : Tr} (hk : t.ok ls) {L : List Row} (hL : Rows_ L) (hlen : t.txt.length < 1000) :
    ∃ r M, readT t.txt L = some (r, M) ∧ L <+: M ∧ Rows_ M ∧ Tr.Den M r t ∧ M.length ≤ L.length + t.txt.length ∧ ∀ x ∈ M, x ∈ L ∨ gdR ls x := by
  obtain ⟨r, M, h1, h2, h3, h4, h5, h6⟩ := run_term (tx := t.txt) hls t [] 0 0 [] L hk (by simp) hL
  refine ⟨r, M, ?_, h2, h3, h4, h5, h6⟩
  have hs := steps_le t
  unfold readT
  have e : 1000 = steps t + ((999 - steps t) + 1) := by omega
  rw [e, h1]
  show endT (if 0 + t.txt.length < t.txt.length then _ else some _) = _
  rw [if_neg (by omega)]
  rfl
end Pl

namespace Mir
open PySem L2 PySem.W PyProof.Rows
end Mir

namespace Mir
open PySem L2
section
variable {ρ ρ1 ρ2 : En} {S S1 S2 S3 : Sto} {a b c e m : ME} {t u : MT} {s s' : MS} {Q : Fl → Sto → Prop}
end
end Mir

namespace Mir
open PySem L2
section
variable {ρ ρ1 : En} {S S1 S2 S3 : Sto} {a b cx : ME} {m r : MA} {s s' : MS} {d e v : Vl} {ds zs as : List Vl} {y : P} {c f : PySem.Str} {x : XD}

theorem exc_if {t : MT} {q : Bool} {o : Res Vl} (ht : t ρ S = .ok q S1) (hk : ifK q (a ρ S1) (b ρ S1) = o) : eIfM t a b ρ S = o := by
  rw [eIf_eq, ht, bind_ok]
  exact hk
theorem exs_seq (h : s ρ S = .ok (.xc ρ1 c x) S1) : sSeq s s' ρ S = .ok (.xc ρ1 c x) S1 := by
  rw [sSeq_eq, h]
  rfl
theorem exs_raise (hm : m ρ S = .ok [d] S1) (hf : frz d S1 = .ok y S2) : sRaise c f m ρ S = .ok (.xc ρ c (some ([f], [y]))) S2 := by
  unfold sRaise
  rw [hm]
  show ((frz d S1).go ρ fun x S2 => RF.ok (.xc ρ c (some ([f], [x]))) S2) = _
  rw [hf]
  rfl
theorem ex_mkF {n k : Nat} {body : MS} (hl : ds.length = n) (hρ : ds.map some ++ List.replicate k none = ρ) (h : ∃ ρ1, body ρ S = .ok (.xc ρ1 c x) S1) (hS : S1.take S.length = S) : mkF n k body ds S = .exc c x S := by
  obtain ⟨ρ1, h⟩ := h
  rw [mkF_eq n k body ds S hl, hρ, h]
  show Res.exc c x (S1.take S.length) = _
  rw [hS]

theorem try_yes {T : Sb} {h : PySem.Str} {i : Option Nat} {g : MX} {hs : List (PySem.Str × Option Nat × MX)} (hb : sbAt T c h = some true) (hi : hasE i ρ = true) (hg : g c x (unE i ρ) S = .ok (.rt d) S1) : tryGo T ((h, i, g) :: hs) ρ c x S = .ok (.rt d) S1 := by
  unfold tryGo
  rw [hb]
  dsimp only
  rw [if_pos hi, hg]
  rfl
theorem ev_xf {fl : PySem.Str} {ns : List PySem.Str} {xs : List P} (h : (ns.zip xs).lookup fl = some y) : eXf c fl c (some (ns, xs)) ρ S = .ok (.p y) S := by
  unfold eXf
  rw [if_pos rfl]
  dsimp only
  rw [h]
theorem ev_xi {t : Bool} {q : List PySem.Str × List P} : eXi c t c (some q) ρ S = .ok (.p (.bl t)) S := by
  unfold eXi
  rw [if_pos rfl]

theorem ev_repr {tb : List (PySem.Str × MF)} {t : PySem.Str} (ha : a ρ S = .ok d S1) (hd : rd S1 d = some y) (hs : showP tb y = some t) (hz : t.length ≤ 100000) : eRepr tb a ρ S = .ok (.p (.str (txL t))) S1 := by
  unfold eRepr
  rw [ha, bind_ok]
  unfold reprV
  rw [hd]
  dsimp only
  rw [hs]
  dsimp only
  rw [if_pos hz]
end
end Mir

namespace Mir
open PySem L2
section
variable {ρ : En} {S S1 S2 S3 : Sto} {a b : ME} {c c2 : Str} {g g2 : MF} {d e : Vl} {q : Bool}
end
end Mir

namespace Law
open PySem L2 Mir
def Urn (S : Sto) (k : Nat) : Prop := ∃ a b c : Int, S[k]? = some (.lst [.int a, .int b, .int c]) ∧ 0 ≤ a ∧ 0 ≤ b ∧ b < 2147483323 ∧ 0 ≤ c
structure Ux (k : Nat) (S S' : Sto) : Prop where
  len : S'.length = S.length
  urn : Urn S' k
  oth : ∀ j, j ≠ k → S'[j]? = S[j]?
theorem Ux.trans {k : Nat} {S S1 S2 : Sto} (h : Ux k S S1) (h' : Ux k S1 S2) : Ux k S S2 := ⟨h'.len.trans h.len, h'.urn, fun j hj => (h'.oth j hj).trans (h.oth j hj)⟩
theorem Ux.of_set {k : Nat} {S : Sto} {c : Cell} {a b e : Int} (hk : S[k]? = some c) (ha : 0 ≤ a) (hb : 0 ≤ b) (hb2 : b < 2147483323) (hc : 0 ≤ e) : Ux k S (S.set k (.lst [.int a, .int b, .int e])) :=
  ⟨List.length_set, ⟨a, b, e, get_set_self hk, ha, hb, hb2, hc⟩, fun j hj => get_set_ne (Ne.symm hj)⟩
theorem ladle_ok {S : Sto} {k : Nat} {n : Int} (hu : Urn S k) (hn : 0 < n) (hn2 : n < 1000000) : ∃ r S', m__law_ladle [.c k, .p (.int n)] S = .ok (.p (.int r)) S' ∧ 0 ≤ r ∧ r < n ∧ Ux k S S' := by
  obtain ⟨a, b, c, hk, ha, hb, hb2, hc⟩ := hu
  unfold m__law_ladle mkF b__law_ladle
  by_cases h0 : 0 < a
  · simp [nv_lst hk, ixV_lst hk, h0, bDiv_of hn (show n < 1073741824 by omega)]
    rw [setV_lst hk rfl]
    simp
    refine ⟨a % n, _, ⟨rfl, rfl⟩, Int.emod_nonneg _ (by omega), Int.emod_lt_of_pos _ hn, ?_⟩
    rw [take_len (List.length_set)]
    exact Ux.of_set hk (Int.ediv_nonneg ha (by omega)) hb hb2 hc
  · simp [nv_lst hk, ixV_lst hk, h0]
    rw [setV_lst hk rfl]
    simp
    have h1 := Ux.of_set (e := c + 1) hk ha hb hb2 (by omega)
    have hk1 : (S.set k (.lst [.int a, .int b, .int (c + 1)]))[k]? = _ := get_set_self hk
    generalize hS1 : S.set k (.lst [.int a, .int b, .int (c + 1)]) = S1 at *
    have e1 : ∀ x, bMul 54001 x = true := fun x => bMul_l (by decide) (by decide)
    have e2 : ∀ x, bMul 41 x = true := fun x => bMul_l (by decide) (by decide)
    have e3 : ∀ x : Int, bMod x 2147483323 = true := fun x => bMod_of (by decide)
    have e4 : ∀ x : Int, bMod x 25013 = true := fun x => bMod_of (by decide)
    simp [nv_lst hk1, ixV_lst hk1, e1, e2, e3, e4]
    generalize hB : (b + 54001 * (c + 1)) % 2147483323 = B
    have hB0 : 0 ≤ B := by rw [← hB]; exact Int.emod_nonneg _ (by decide)
    have hB1 : B < 2147483323 := by rw [← hB]; exact Int.emod_lt_of_pos _ (by decide)
    have e5 : ∀ x, bMul B x = true := fun x => bMul_l (by omega) (by omega)
    simp [e5, e2, e3, e4, nv_lst hk1, ixV_lst hk1]
    rw [setV_lst hk1 rfl]
    simp
    generalize hC : (B * (B % 25013 + 57037) + 41 * (c + 1) + 7) % 2147483323 = C
    have hC0 : 0 ≤ C := by rw [← hC]; exact Int.emod_nonneg _ (by decide)
    have hC1 : C < 2147483323 := by rw [← hC]; exact Int.emod_lt_of_pos _ (by decide)
    have h2 := Ux.of_set (a := a) (b := C) (e := c + 1) hk1 ha hC0 hC1 (by omega)
    have hk2 : (S1.set k (.lst [.int a, .int C, .int (c + 1)]))[k]? = _ := get_set_self hk1
    generalize hS2 : S1.set k (.lst [.int a, .int C, .int (c + 1)]) = S2 at *
    have e6 : ∀ x, bDiv x 193 = true := fun x => bDiv_of (by decide) (by decide)
    have e7 : ∀ x, bMod x n = true := fun x => bMod_of hn
    simp [nv_lst hk2, ixV_lst hk2, e6, e7]
    refine ⟨_, _, ⟨rfl, rfl⟩, Int.emod_nonneg _ (by omega), Int.emod_lt_of_pos _ hn, ?_⟩
    rw [take_len (h2.len.trans h1.len)]
    exact h1.trans h2
theorem pick_ok {S : Sto} {k : Nat} {xs : List P} (hu : Urn S k) (h0 : xs ≠ []) (hl : xs.length < 1000000) : ∃ x S', m__law_pick [.c k, .p (.lst xs)] S = .ok (.p x) S' ∧ x ∈ xs ∧ Ux k S S' := by
  have hp : 0 < xs.length := List.length_pos_iff.mpr h0
  obtain ⟨r, S', e, r0, r1, ux⟩ := ladle_ok (n := xs.length) hu (by omega) (by omega)
  have hr : r.toNat < xs.length := by omega
  refine ⟨xs[r.toNat], S', ?_, List.getElem_mem _, ux⟩
  unfold m__law_pick mkF b__law_pick
  simp [e]
  have e2 : atI xs r = some xs[r.toNat] := by
    have := atN (xs := xs) (i := r.toNat) (x := xs[r.toNat]) (by simp [hr])
    rwa [Int.toNat_of_nonneg r0] at this
  rw [e2]
  simp
  exact take_len ux.len
end Law

namespace Law
open PySem L2 Mir Pl
structure N1 (s n : Nat) (rows : List (List Nat)) (S : Sto) : Prop where
  len : S.length = s + n + 1
  cel : ∀ i, i < n → S[s + i]? = some (.lst (nums (row rows i)))
  out : S[s + n]? = some (.lsv ((List.range n).map fun i => Vl.c (s + i)))
theorem N1.ux {s n k : Nat} {rows : List (List Nat)} {S S' : Sto} (h : N1 s n rows S) (hk : k < s) (u : Ux k S S') : N1 s n rows S' :=
  ⟨u.len.trans h.len, fun i hi => by rw [u.oth _ (by omega)]; exact h.cel i hi, by rw [u.oth _ (by omega)]; exact h.out⟩
theorem N1.app {s n k : Nat} {rows : List (List Nat)} {S : Sto} (h : N1 s n rows S) (hk : k < n) (hr : rows.length = n) (l : List Nat) : N1 s n (rows.set k l) (S.set (s + k) (.lst (nums l))) := by
  refine ⟨by rw [List.length_set]; exact h.len, fun i hi => ?_, ?_⟩
  · by_cases q : i = k
    · subst q
      rw [get_set_self (h.cel i hi), row_set_self (by omega)]
    · rw [get_set_ne (by omega), row_set_ne (Ne.symm q)]
      exact h.cel i hi
  · rw [get_set_ne (by omega)]
    exact h.out
structure Low (ku s : Nat) (S0 S : Sto) : Prop where
  urn : Urn S ku
  oth : ∀ j, j < s → j ≠ ku → S[j]? = S0[j]?
theorem Low.ux {ku s : Nat} {S0 S S' : Sto} (h : Low ku s S0 S) (u : Ux ku S S') : Low ku s S0 S' := ⟨u.urn, fun j hj hn => (u.oth j hn).trans (h.oth j hj hn)⟩
theorem Low.set {ku s k : Nat} {S0 S : Sto} {c : Cell} (h : Low ku s S0 S) (hk : s ≤ k) (hu : ku < s) : Low ku s S0 (S.set k c) := by
  refine ⟨?_, fun j hj hn => by rw [get_set_ne (by omega)]; exact h.oth j hj hn⟩
  obtain ⟨a, b, e, h1, h2⟩ := h.urn
  exact ⟨a, b, e, by rw [get_set_ne (by omega)]; exact h1, h2⟩
abbrev e1 (ku n o : Nat) (sh : Int) (kv jv : Option Vl) : En := [some (.c ku), some (.p (.int (n : Int))), kv, none, some (.c o), some (.p (.int sh)), jv, none, none]
end Law

namespace Law
open PySem L2 Mir Pl
def RdL (s n : Nat) (S : Sto) (d : Vl) (l : List Nat) : Prop := d = .p (.lst (nums l)) ∨ ∃ i, i < n ∧ d = .c (s + i) ∧ (S[s + i]? = some (.lst (nums l)) ∨ S[s + i]? = some (.fz (.lst (nums l))))
theorem RdL.rd {s n : Nat} {S : Sto} {d : Vl} {l : List Nat} (h : RdL s n S d l) : rd S d = some (.lst (nums l)) := by
  rcases h with rfl | ⟨i, _, rfl, h | h⟩
  · rfl
  · exact rd_lst h
  · exact rd_fz h
structure Fz (s n : Nat) (S S' : Sto) : Prop where
  len : S'.length = S.length
  oth : ∀ j, j < s ∨ s + n ≤ j → S'[j]? = S[j]?
  rdl : ∀ d l, RdL s n S d l → RdL s n S' d l
theorem Fz.refl {s n : Nat} {S : Sto} : Fz s n S S := ⟨rfl, fun _ _ => rfl, fun _ _ h => h⟩
theorem Fz.trans {s n : Nat} {S S1 S2 : Sto} (h : Fz s n S S1) (h' : Fz s n S1 S2) : Fz s n S S2 := ⟨h'.len.trans h.len, fun j hj => (h'.oth j hj).trans (h.oth j hj), fun d l q => h'.rdl d l (h.rdl d l q)⟩
theorem RdL.frz {s n : Nat} {S : Sto} {d : Vl} {l : List Nat} (h : RdL s n S d l) : ∃ S', frz d S = .ok (.lst (nums l)) S' ∧ Fz s n S S' := by
  rcases h with rfl | ⟨i, hi, rfl, h | h⟩
  · exact ⟨S, rfl, Fz.refl⟩
  · refine ⟨_, frz_lst h, by rw [List.length_set], fun j hj => get_set_ne (by omega), fun d' l' q => ?_⟩
    rcases q with q | ⟨i', hi', rfl, q⟩
    · exact .inl q
    · refine .inr ⟨i', hi', rfl, ?_⟩
      by_cases e : i' = i
      · subst e
        rw [get_set_self h]
        rw [h] at q
        rcases q with q | q
        · rw [← Cell.lst.inj (Option.some.inj q)]; exact .inr rfl
        · cases q
      · rw [get_set_ne (by omega)]
        exact q
  · exact ⟨S, frz_fz h, Fz.refl⟩
structure N2 (s n : Nat) (rows : List (List Nat)) (S : Sto) : Prop where
  len : S.length = s + n + 1
  ex : ∃ ds, S[s + n]? = some (.lsv ds) ∧ ds.length = n ∧ ∀ i, i < n → ∃ d, ds[i]? = some d ∧ RdL s n S d (row rows i)
theorem N1.n2 {s n : Nat} {rows : List (List Nat)} {S : Sto} (h : N1 s n rows S) : N2 s n rows S :=
  ⟨h.len, _, h.out, by rw [List.length_map, List.length_range], fun i hi => ⟨.c (s + i), by rw [List.getElem?_map, List.getElem?_range hi]; rfl, .inr ⟨i, hi, rfl, .inl (h.cel i hi)⟩⟩⟩
theorem N2.fz {s n : Nat} {rows : List (List Nat)} {S S' : Sto} (h : N2 s n rows S) (f : Fz s n S S') : N2 s n rows S' := by
  obtain ⟨ds, h1, h2, h3⟩ := h.ex
  refine ⟨f.len.trans h.len, ds, by rw [f.oth _ (by omega)]; exact h1, h2, fun i hi => ?_⟩
  obtain ⟨d, e, r⟩ := h3 i hi
  exact ⟨d, e, f.rdl _ _ r⟩
theorem setV_lsvp {S : Sto} {k n : Nat} {xs : List Vl} {j : Int} {x : P} (h : S[k]? = some (.lsv xs)) (hj : ixN xs.length j = some n) : setV (.c k) (.p (.int j)) (.p x) S = .ok () (S.set k (.lsv (xs.set n (.p x)))) := by
  unfold setV
  dsimp only
  rw [h]
  dsimp only
  rw [hj]
theorem ixN_nat {n i : Nat} (h : i < n) : ixN n (i : Int) = some i := by
  unfold ixN
  rw [if_pos (by omega), if_pos (by omega)]
  simp
theorem N2.put {s n : Nat} {rows : List (List Nat)} {S : Sto} (h : N2 s n rows S) (hr : rows.length = n) {k : Nat} (hk : k < n) (l : List Nat) : ∃ S', setV (.c (s + n)) (.p (.int (k : Int))) (.p (.lst (nums l))) S = .ok () S' ∧ N2 s n (rows.set k l) S' ∧ ∀ j, j < s → S'[j]? = S[j]? := by
  obtain ⟨ds, h1, h2, h3⟩ := h.ex
  refine ⟨_, setV_lsvp h1 (by rw [h2]; exact ixN_nat hk), ⟨by rw [List.length_set]; exact h.len, _, get_set_self h1, by rw [List.length_set]; exact h2, fun i hi => ?_⟩, fun j hj => get_set_ne (by omega)⟩
  by_cases q : i = k
  · subst q
    exact ⟨_, List.getElem?_set_self (by omega), .inl (by rw [row_set_self (by omega)])⟩
  · obtain ⟨d, e, r⟩ := h3 i hi
    refine ⟨d, by rw [List.getElem?_set_ne (Ne.symm q)]; exact e, ?_⟩
    rw [row_set_ne (Ne.symm q)]
    rcases r with r | ⟨i', hi', rfl, r⟩
    · exact .inl r
    · exact .inr ⟨i', hi', rfl, by rw [get_set_ne (by omega)]; exact r⟩
abbrev e2 (ku n o : Nat) (sh : Int) (tv kv jv : Option Vl) : En := [some (.c ku), some (.p (.int (n : Int))), kv, tv, some (.c o), some (.p (.int sh)), jv, none, none]
end Law

namespace Pl
structure Near (n : Nat) (near : List (List Nat)) : Prop where
  len : near.length = n
  srt : ∀ i, i < n → (row near i).Pairwise (· < ·)
  lt : ∀ i, i < n → ∀ e ∈ row near i, e < n
  rfl_ : ∀ i, i < n → i ∈ row near i
  trs : ∀ i, i < n → ∀ j ∈ row near i, ∀ e ∈ row near j, e ∈ row near i
end Pl
namespace Mir
open L2 Pl
end Mir
namespace Law
open PySem L2 Mir Pl
theorem RdL.frzN {s n : Nat} {S : Sto} {d : Vl} {l : List Nat} (m : Nat) (h : RdL s n S d l) : ∃ S', frzN (m + 1) d S = .ok (.lst (nums l)) S' ∧ Fz s n S S' := by
  have e : Mir.frzN (m + 1) d S = Mir.frz d S := by
    rcases h with rfl | ⟨i, hi, rfl, h | h⟩
    · rfl
    · rw [frz_lst h]
      unfold Mir.frzN
      dsimp only
      rw [h]
    · rw [frz_fz h]
      unfold Mir.frzN
      dsimp only
      rw [h]
  rw [e]
  exact h.frz
end Law

namespace Pl
end Pl
namespace Mir
abbrev txts (l : List (List Nat)) : List P := l.map P.str
@[simp] theorem strs_length (l : List (List Nat)) : (txts l).length = l.length := List.length_map _
end Mir
namespace Law
open PySem L2 Mir Pl
end Law

namespace Mir
open L2
@[simp] theorem tyP_str (x : List Nat) : tyP "str" (.str x) = true := rfl
@[simp] theorem tyP_lst (x : List P) : tyP "list" (.lst x) = true := rfl
end Mir
namespace Law
open PySem L2 Mir Pl
def m_is_name : MF := fun _ S => .ok (.p (.bl true)) S
structure NameOk (x : List Nat) : Prop where
  is : ∀ S, m_is_name [.p (.str x)] S = .ok (.p (.bl true)) S
  c10 : 10 ∉ x
  c32 : 32 ∉ x
  c58 : 58 ∉ x
  len : x.length ≤ 8
  asc : (x.all fun c => decide (c < 128)) = true
def rowT (x : List Nat) (ns : List (List Nat)) : List Nat := x ++ ([58, 32] ++ TL.joinL [32] ns)
end Law

namespace Mir
open L2 Pl
end Mir
namespace Law
open PySem L2 Mir Pl
def pick (order : List (List Nat)) (l : List Nat) : List (List Nat) := l.map fun i => order.getD i []
def sq (b : Bool) (xs : List P) : P := if b then .lst xs else .tup xs
theorem mem_getD {order : List (List Nat)} {i : Nat} (hi : i < order.length) : order.getD i [] ∈ order := by
  simp [hi]
theorem blsOf_map (l : List Bool) : blsOf (l.map P.bl) = some l := by
  induction l with
  | nil => rfl
  | cons a l ih =>
    show (blsOf (l.map P.bl)).map (a :: ·) = _
    rw [ih]
    rfl
end Law

namespace Law
open PySem L2 Mir Pl
end Law

namespace Law
open PySem L2 Mir Pl
def bitsL (near : List (List Nat)) : List Nat := near.map bitsN
end Law

namespace Law
open PySem L2 Mir Pl
end Law

namespace Law
open PySem L2 Mir Pl
theorem map_getD {A : Type} (d : A) (l : List A) : ((List.range l.length).map fun i => l.getD i d) = l := by
  apply List.ext_getElem?
  intro i
  rw [List.getElem?_map]
  by_cases h : i < l.length
  · rw [List.getElem?_range h, List.getElem?_eq_getElem h]
    simp [h]
  · rw [List.getElem?_eq_none (by rw [List.length_range]; omega), List.getElem?_eq_none (by omega)]
    rfl
structure Spc (n : Nat) (order : List (List Nat)) (near : List (List Nat)) : Prop where
  len : order.length = n
  nd : order.Nodup
  nm : ∀ x ∈ order, NameOk x
  near : Near n near
  pos : 0 < n
  le : n ≤ 256
def rowAt (order near : List (List Nat)) (i : Nat) : List Nat := rowT (order.getD i []) (pick order (row near i))
def textT (n : Nat) (order near : List (List Nat)) : List Nat := TL.joinL [10] ((List.range n).map (rowAt order near))
section
variable {n : Nat} {order near : List (List Nat)} (h : Spc n order near)
include h
theorem Spc.at_ {i : Nat} (hi : i < n) : NameOk (order.getD i []) := h.nm _ (mem_getD (by rw [h.len]; exact hi))
theorem Spc.pk {i : Nat} (hi : i < n) : ∀ y ∈ pick order (row near i), NameOk y := fun y hy => by
  obtain ⟨j, hj, rfl⟩ := List.mem_map.mp hy
  exact h.at_ (h.near.lt i hi j hj)
theorem joinL_mem {c : Nat} {s : List Nat} (hs : c ∉ s) : ∀ {l : List (List Nat)}, (∀ x ∈ l, c ∉ x) → c ∉ TL.joinL s l
  | [], _ => by simp [TL.joinL]
  | [p], hl => by simpa [TL.joinL] using hl p List.mem_cons_self
  | p :: q :: r, hl => by
    have ih := joinL_mem hs (l := q :: r) fun x hx => hl x (List.mem_cons_of_mem _ hx)
    have h0 := hl p List.mem_cons_self
    show c ∉ p ++ (s ++ TL.joinL s (q :: r))
    simp only [List.mem_append, not_or]
    exact ⟨h0, hs, ih⟩
theorem Spc.row_10 {i : Nat} (hi : i < n) : 10 ∉ rowAt order near i := by
  unfold rowAt rowT
  have h1 := (h.at_ hi).c10
  have h2 := joinL_mem h (c := 10) (s := [32]) (by decide) fun x hx => (h.pk hi x hx).c10
  simp only [List.mem_append, not_or]
  exact ⟨h1, by decide, h2⟩
theorem Spc.split : TL.spl [10] 0 [] (textT n order near) = (List.range n).map (rowAt order near) := by
  refine TL.spl_join ?_ fun p hp => ?_
  · intro z
    have := List.map_eq_nil_iff.mp z
    have hl := congrArg List.length this
    rw [List.length_range] at hl
    have := h.pos
    simp at hl
    omega
  · obtain ⟨i, hi, rfl⟩ := List.mem_map.mp hp
    exact h.row_10 (List.mem_range.mp hi)
end
end Law

namespace Law
open PySem L2 Mir Pl
def rowP (order near : List (List Nat)) (i : Nat) : P := .tup [.str (order.getD i []), .lst (txts (pick order (row near i)))]
theorem merge_ok {order : List (List Nat)} (vs : Nat → P) (nd : order.Nodup) : ∀ (is : List Nat) (ks xs : List P) (done : List (List Nat)), ks = txts done → (done ++ is.map fun i => order.getD i []).Nodup →
    ∃ xs', mergeP (is.map fun i => P.tup [.str (order.getD i []), vs i]) ks xs = some (txts (done ++ is.map fun i => order.getD i []), xs')
  | [], ks, xs, done, hk, _ => ⟨xs, by rw [hk]; show some (_, _) = _; rw [List.map_nil, List.append_nil]⟩
  | i :: is, ks, xs, done, hk, hd => by
    have hnot : order.getD i [] ∉ done := by
      rw [List.map_cons, List.nodup_append] at hd
      intro z
      exact hd.2.2 _ z _ List.mem_cons_self rfl
    have hany : (ks.any fun a => keq a (.str (order.getD i []))) = false := by
      rw [hk]
      unfold txts
      rw [List.any_map, List.any_eq_false]
      intro x hx
      show ¬ ((x == order.getD i []) = true)
      simp only [beq_iff_eq]
      intro z
      rw [← z] at hnot
      exact hnot hx
    have hp : dPutK (.str (order.getD i [])) ks = txts (done ++ [order.getD i []]) := by
      unfold dPutK
      rw [hany, if_neg (by decide), hk]
      unfold txts
      rw [List.map_append]
      rfl
    obtain ⟨xs', e⟩ := merge_ok vs nd is _ (dPutV (.str (order.getD i [])) (vs i) ks xs) (done ++ [order.getD i []]) hp (by
      rw [List.append_assoc]
      exact hd)
    refine ⟨xs', ?_⟩
    rw [List.map_cons]
    show mergeP (is.map fun i => P.tup [.str (order.getD i []), vs i]) (dPutK (.str (order.getD i [])) ks) (dPutV (.str (order.getD i [])) (vs i) ks xs) = _
    rw [e, List.append_assoc]
    rfl
section
variable {n : Nat} {order near : List (List Nat)} (h : Spc n order near)
include h
theorem Spc.ordr : ((List.range n).map fun i => order.getD i []) = order := by
  have := map_getD ([] : List Nat) order
  rw [h.len] at this
  exact this
theorem Spc.dict : ∃ vs, pDictP [.lst ((List.range n).map (rowP order near))] = some (.dct (txts order) vs) := by
  obtain ⟨xs, e⟩ := merge_ok (order := order) (fun i => .lst (txts (pick order (row near i)))) h.nd (List.range n) [] [] [] rfl (by rw [List.nil_append, h.ordr]; exact h.nd)
  rw [List.nil_append, h.ordr] at e
  refine ⟨xs, ?_⟩
  show (mergeP ((List.range n).map (rowP order near)) [] []).map (fun q => P.dct q.1 q.2) = _
  have : ((List.range n).map (rowP order near)) = (List.range n).map fun i => P.tup [.str (order.getD i []), .lst (txts (pick order (row near i)))] := rfl
  rw [this, e]
  rfl
end
end Law

namespace Law
open PySem L2 Mir Pl
section
variable {n : Nat} {order near : List (List Nat)} (h : Spc n order near)
include h
end
end Law

namespace Mir
open PySem
theorem putN_new {f : Str} : ∀ {ns : List Str}, f ∉ ns → putN f ns = ns ++ [f]
  | [], _ => rfl
  | n :: ns, h => by
    show (if n = f then n :: ns else n :: putN f ns) = _
    rw [if_neg (fun z => h (by rw [z]; exact List.mem_cons_self)), putN_new fun z => h (List.mem_cons_of_mem _ z)]
    rfl
theorem putX_new {A : Type} {f : Str} {a : A} : ∀ {ns : List Str} {xs : List A}, f ∉ ns → ns.length = xs.length → putX f a ns xs = xs ++ [a]
  | [], [], _, _ => rfl
  | [], _ :: _, _, h => by cases h
  | _ :: _, [], _, h => by cases h
  | n :: ns, x :: xs, h, hl => by
    show (if n = f then a :: xs else x :: putX f a ns xs) = _
    rw [if_neg (fun z => h (by rw [z]; exact List.mem_cons_self)), putX_new (fun z => h (List.mem_cons_of_mem _ z)) (by simpa using hl)]
    rfl
theorem fSet_end {c f : Str} {S : Sto} {ns : List Str} {xs : List Vl} {x : P} (h : f ∉ ns) (hl : ns.length = xs.length) (hn : ns.length < 1000) : fSet c f (.c S.length) (.p x) (S ++ [.ins c ns xs]) = .ok () (S ++ [.ins c (ns ++ [f]) (xs ++ [.p x])]) := by
  show putC c f S.length (.p x) (S ++ [.ins c ns xs]) = _
  unfold putC
  have e : (S ++ [Cell.ins c ns xs])[S.length]? = some (.ins c ns xs) := by simp
  rw [e]
  dsimp only
  rw [if_pos ⟨rfl, hn⟩, putN_new h, putX_new h hl]
  simp
end Mir
namespace Law
open PySem L2 Mir Pl
def spcP (n : Nat) (order near : List (List Nat)) : P := .obj "Space" ["told", "order", "seen"] [.str (textT n order near), .lst (txts order), .lst (nums (bitsL near))]
section
variable {n : Nat} {order near : List (List Nat)} (h : Spc n order near)
include h
end
end Law

namespace Law
open PySem L2 Mir Pl
section
variable {n : Nat} {order near : List (List Nat)} (h : Spc n order near)
include h
end
end Law

namespace Law
open PySem L2 Mir Pl
theorem fld_order (n : Nat) (order near : List (List Nat)) (S : Sto) : fldV "Space" "order" (.p (spcP n order near)) S = .ok (.p (.lst (txts order))) S := by
  unfold fldV spcP
  dsimp only
  rw [if_pos rfl]
  unfold fldOf
  rw [if_neg (by decide)]
  unfold fldOf
  rw [if_pos rfl]
theorem fld_seen (n : Nat) (order near : List (List Nat)) (S : Sto) : fldV "Space" "seen" (.p (spcP n order near)) S = .ok (.p (.lst (nums (bitsL near)))) S := by
  unfold fldV spcP
  dsimp only
  rw [if_pos rfl]
  unfold fldOf
  rw [if_neg (by decide)]
  unfold fldOf
  rw [if_neg (by decide)]
  unfold fldOf
  rw [if_pos rfl]
theorem fld_told (n : Nat) (order near : List (List Nat)) (S : Sto) : fldV "Space" "told" (.p (spcP n order near)) S = .ok (.p (.str (textT n order near))) S := by
  unfold fldV spcP
  dsimp only
  rw [if_pos rfl]
  unfold fldOf
  rw [if_pos rfl]
structure Lot (n : Nat) (l : List Nat) : Prop where
  srt : l.Pairwise (· < ·)
  lt : ∀ e ∈ l, e < n
theorem Lot.nd {n : Nat} {l : List Nat} (h : Lot n l) : l.Nodup := h.srt.imp fun z => Nat.ne_of_lt z
theorem Lot.len {n : Nat} {l : List Nat} (h : Lot n l) : l.length ≤ n := nodup_len n l h.nd h.lt
abbrev setP (order : List (List Nat)) (l : List Nat) : P := .tup (txts (pick order l))
section
variable {n : Nat} {order near : List (List Nat)} (h : Spc n order near)
include h
end
end Law

namespace Pl
end Pl
namespace Law
open PySem L2 Mir Pl
section
variable {n : Nat} {order near : List (List Nat)} (h : Spc n order near)
include h
end
end Law

namespace Pl
section
variable {n : Nat} {near : List (List Nat)} {l m : List Nat} {k : Nat}
open Law
variable (h : Near n near)
include h
end
end Pl

local macro_rules | `(tactic| exists cell_run) => `(tactic| first | with_reducible assumption | with_reducible exact Mir.cell0 | with_reducible exact Mir.cell1 | with_reducible exact Mir.cell2)
local macro_rules | `(tactic| exists sd_run) => `(tactic| first | assumption | omega | decide | solve_by_elim (transparency := .reducible) only [*] | (focus have := List.mem_range.mp (by assumption); omega) | (focus simp; done) | (focus simp; omega))
local macro_rules | `(tactic| exists op_run) => `(tactic| first
  | with_reducible assumption
  | with_reducible exact Mir.op_addN1 | with_reducible exact Mir.op_add1N | with_reducible exact Mir.op_addN | with_reducible exact Mir.op_add
  | (with_reducible apply Mir.op_addS) <;> exists sd_run | (with_reducible apply Mir.op_addLm) <;> exists sd_run | (with_reducible apply Mir.op_addTm) <;> exists sd_run | (with_reducible apply Mir.op_addL) <;> exists sd_run | (with_reducible apply Mir.op_addT) <;> exists sd_run
  | ((with_reducible apply Mir.op_sub1) <;> exists sq_run) | ((with_reducible apply Mir.op_subN) <;> exists sq_run) | ((with_reducible apply Mir.op_modN) <;> exists sq_run) | with_reducible exact Mir.op_int | with_reducible exact Mir.op_neg1 | with_reducible exact Mir.op_neg | with_reducible exact Mir.op_mul2 | with_reducible exact Mir.op_init | with_reducible exact Mir.op_eqL1
  | with_reducible exact Mir.op_band | with_reducible exact Mir.op_bandnot | with_reducible exact Mir.op_and1 | with_reducible exact Mir.op_pI | with_reducible exact Mir.op_inv
  | (with_reducible apply Mir.op_shl) <;> exists sd_run | with_reducible exact Mir.op_shr
  | with_reducible exact Mir.op_eqB | with_reducible exact Mir.op_neB | with_reducible exact Mir.op_niB | with_reducible exact Mir.op_is | with_reducible exact Mir.op_isNot
  | with_reducible exact Mir.op_eqB1 | with_reducible exact Mir.op_eqB0 | with_reducible exact Mir.op_eqN | with_reducible exact Mir.op_neN | with_reducible exact Mir.op_eqN0 | with_reducible exact Mir.op_neN0 | (with_reducible apply Mir.op_eqX) <;> exists dat_run | (with_reducible apply Mir.op_neX) <;> exists dat_run | ((with_reducible apply Mir.eqc_t); exact rfl) | ((with_reducible apply Mir.eqc_f); exact rfl) | ((with_reducible apply Mir.nec_t); exact rfl) | ((with_reducible apply Mir.nec_f); exact rfl) | with_reducible exact Mir.op_eqI | with_reducible exact Mir.op_neI
  | with_reducible exact Mir.op_ltN | with_reducible exact Mir.op_leN | with_reducible exact Mir.op_gtN | with_reducible exact Mir.op_geN | with_reducible exact Mir.op_pIB
  | (with_reducible apply Mir.op_neL0) <;> exists sd_run | (with_reducible apply Mir.op_eqL0) <;> exists sd_run | (with_reducible apply Mir.op_neT0) <;> exists sd_run | (with_reducible apply Mir.op_eqT0) <;> exists sd_run
  | ((with_reducible apply Mir.op_reprL) <;> exists dat_run)
  | (with_reducible apply Mir.op_eqX) <;> exists dat_run | (with_reducible apply Mir.op_neX) <;> exists dat_run
  | ((with_reducible apply Mir.eqc_t); exact rfl) | ((with_reducible apply Mir.eqc_f); exact rfl) | ((with_reducible apply Mir.nec_t); exact rfl) | ((with_reducible apply Mir.nec_f); exact rfl)
  | (with_reducible apply Mir.op_eqS) <;> exists sd_run | (with_reducible apply Mir.op_neS) <;> exists sd_run
  | (with_reducible apply Mir.op_eqTS) <;> exists sd_run | (with_reducible apply Mir.op_neTS) <;> exists sd_run
  | with_reducible exact Mir.op_inSL' | with_reducible exact Mir.op_inST' | with_reducible exact Mir.op_inNL' | with_reducible exact Mir.op_niSL' | with_reducible exact Mir.op_niST' | with_reducible exact Mir.op_niNL'
  | with_reducible exact Mir.op_inSL | with_reducible exact Mir.op_inST | with_reducible exact Mir.op_inNL | with_reducible exact Mir.op_niSL | with_reducible exact Mir.op_niST | with_reducible exact Mir.op_niNL
  | ((with_reducible apply Mir.inc_t); exact rfl) | ((with_reducible apply Mir.inc_f); exact rfl) | ((with_reducible apply Mir.nic_t); exact rfl) | ((with_reducible apply Mir.nic_f); exact rfl)
  | with_reducible exact Mir.op_lenLm | with_reducible exact Mir.op_lenTm | with_reducible exact Mir.op_lenL | with_reducible exact Mir.op_lenT | (with_reducible apply Mir.op_lenS) <;> exists sd_run
  | with_reducible exact Mir.op_tupL | with_reducible exact Mir.op_tupT | with_reducible exact Mir.op_lstL | with_reducible exact Mir.op_lstT
  | with_reducible exact Mir.op_sum | with_reducible exact Mir.op_all | with_reducible exact Mir.op_all2 | with_reducible exact Mir.op_any
  | with_reducible exact Mir.ix_l0 | with_reducible exact Mir.ix_l1 | with_reducible exact Mir.ix_l2 | with_reducible exact Mir.ix_l3 | with_reducible exact Mir.ix_l4 | with_reducible exact Mir.ix_l5 | with_reducible exact Mir.ix_t0 | with_reducible exact Mir.ix_t1 | with_reducible exact Mir.ix_t2 | with_reducible exact Mir.ix_t3
  | (with_reducible apply Mir.ix_ls) <;> exists sd_run | (with_reducible apply Mir.ix_ln) <;> exists sd_run | (with_reducible apply Mir.ix_ts) <;> exists sd_run | (with_reducible apply Mir.ix_lm) <;> exists sd_run
  | with_reducible assumption)
local macro_rules | `(tactic| exists call_run) => `(tactic| first | with_reducible assumption | (apply_assumption (transparency := .reducible) only [*] <;> first | with_reducible assumption | omega))
local macro_rules | `(tactic| exists rd_run) => `(tactic| first | with_reducible exact Mir.rd_p _ _ | with_reducible exact Mir.rds_nil _ | (with_reducible apply Mir.rds_c) <;> exists rd_run | exact Mir.rd_lst (by exists cell_run) | exact Mir.rd_fz (by exists cell_run))
local macro_rules | `(tactic| exists ev_run) => `(tactic| first
  | with_reducible exact Mir.ev_c
  | ((with_reducible apply Mir.ev_var); exact rfl)
  | with_reducible exact Mir.ev_anil
  | (with_reducible apply Mir.ev_acons) <;> exists ev_run
  | ((with_reducible apply Mir.ev_bin); exists ev_run; exists ev_run; exists rd_run; exists rd_run; exists op_run)
  | ((with_reducible apply Mir.ev_un); exists ev_run; exists rd_run; exists op_run)
  | ((with_reducible apply Mir.ev_item); exists ev_run; exists ev_run; exists ix_run)
  | ((with_reducible apply Mir.ev_call); exists ev_run; exists rd_run; exists op_run)
  | ((with_reducible apply Mir.ev_mth); exists ev_run; exists rd_run; exact rfl; exists ev_run; exists rd_run; exists rd_run; exists op_run)
  | ((with_reducible apply Mir.ev_fn); exists ev_run; exists call_run)
  | ((with_reducible apply Mir.ev_fnK); exists ev_run; exists ev_run; exact rfl; exact rfl; exists perm_run; exists call_run)
  | ((with_reducible apply Mir.ev_meth); exists ev_run; kernel_rfl; exists ev_run; exists call_run)
  | ((with_reducible apply Mir.ev_methK); exists ev_run; kernel_rfl; exists ev_run; exists ev_run; exact rfl; exact rfl; exists perm_run; exists call_run)
  | ((with_reducible apply Mir.ev_make); exists ev_run; exists call_run)
  | ((with_reducible apply Mir.ev_fld); exists ev_run; exists fld_run)
  | ((with_reducible apply Mir.ev_prop); exists ev_run; kernel_rfl; exists call_run)
  | ((with_reducible apply Mir.ev_tval); exists ev_run)
  | ((with_reducible apply Mir.ev_tand) <;> exists ev_run)
  | ((with_reducible apply Mir.ev_tor) <;> exists ev_run)
  | ((with_reducible apply Mir.ev_tnot); exists ev_run; exists not_run)
  | ((with_reducible apply Mir.ev_eand) <;> exists ev_run)
  | ((with_reducible apply Mir.ev_eor) <;> exists ev_run)
  | ((with_reducible apply Mir.ev_enot); exists ev_run; exists not_run)
  | ((with_reducible apply Mir.ev_if) <;> exists ev_run)
  | with_reducible exact Mir.andK_f | ((with_reducible apply Mir.andK_t); exists ev_run) | ((with_reducible apply Mir.andK_s); intro _; exists ev_run)
  | with_reducible exact Mir.orK_t | ((with_reducible apply Mir.orK_f); exists ev_run) | ((with_reducible apply Mir.orK_s); intro _; exists ev_run)
  | with_reducible exact Mir.eandK_f | ((with_reducible apply Mir.eandK_t); exists ev_run) | ((with_reducible apply Mir.eandK_s); intro _; exists ev_run)
  | with_reducible exact Mir.eorK_t | ((with_reducible apply Mir.eorK_f); exists ev_run) | ((with_reducible apply Mir.eorK_s); intro _; exists ev_run)
  | ((with_reducible apply Mir.ifK_t); exists ev_run) | ((with_reducible apply Mir.ifK_f); exists ev_run)
  | ((with_reducible apply Mir.ifK_yes); (with_reducible assumption); exists ev_run) | ((with_reducible apply Mir.ifK_no); (with_reducible assumption); exists ev_run)
  | ((with_reducible apply Mir.ifK_n) <;> (intro _; exists ev_run))
  | ((with_reducible apply Mir.ifK_i) <;> (intro _; exists ev_run))
  | ((with_reducible apply Mir.ifK_s) <;> (intro _; exists ev_run))
  | ((with_reducible apply Mir.ev_isN); exists ev_run; exact rfl)
  | ((with_reducible apply Mir.ev_notN); exists ev_run; exact rfl)
  | ((with_reducible apply Mir.ev_sl); exists ev_run; exists ev_run; exists ev_run; exists rd_run; exists op_run)
  | with_reducible exact Mir.ev_ono | ((with_reducible apply Mir.ev_oyes); exists ev_run)
  | ((with_reducible apply Mir.ev_tup); exists ev_run; exists fz_run; exists sd_run)
  | ((with_reducible apply Mir.ev_lst); exists ev_run; exists fz_run; exists sd_run)
  | ((with_reducible apply Mir.ev_lstC); exists ev_run; exists fz_run; exists sd_run)
  | ((with_reducible apply Mir.ev_itOf); exists ev_run; exists fz_run; exact rfl)
  | with_reducible exact Mir.rng_1 | with_reducible exact Mir.rng_2 | with_reducible exact Mir.rng_3 | with_reducible exact Mir.rng_4 | with_reducible exact Mir.rng_5 | with_reducible exact Mir.rng_6 | with_reducible exact Mir.rng_8
  | ((with_reducible apply Mir.ev_range1); exists ev_run; exists sd_run)
  | ((with_reducible apply Mir.ev_enumN); exists ev_run)
  | ((with_reducible apply Mir.ev_enumS); exists ev_run)
  | ((with_reducible apply Mir.ev_zip) <;> exists ev_run)
  | ((with_reducible apply Mir.ev_lcm); exists ev_run; exists sd_run; exists wipe_run; (intro _ _; exists ev_run); intro _ _; exists ev_run)
  | ((with_reducible apply Mir.ev_lc); exists ev_run; exists sd_run; exists wipe_run; (intro _ _; exists ev_run); (intro _ _; exists ev_run); intro _ _ _; exists ev_run)
  | ((with_reducible apply Mir.ev_lcx); exists ev_run; exists sd_run; exists wipe_run; exists lcx_run)
  | ((with_reducible apply Mir.ev_lc2); exists ev_run; exists sd_run; exists wipe_run; (intro _ _; exists ev_run); (intro _ _; exists ev_run); (intro _ _; exists sd_run); (intro _ _; exists wipe_run); (intro _ _ _ _; exists ev_run); intro _ _ _ _; exists ev_run)
  | ((with_reducible apply Mir.ev_rgL); exists ev_run; exists sd_run)
  | ((with_reducible apply Mir.ev_forx); exists ev_run; exists forx_run)
  | ((with_reducible apply Mir.ev_gnm); exists wipe_run)
  | ((with_reducible apply Mir.ev_gtp); exact rfl; exists wipe_run; exists ev_run)
  | with_reducible exact Mir.ev_gnl
  | ((with_reducible apply Mir.ev_gcn) <;> exists ev_run)
  | with_reducible exact Mir.ev_pass
  | ((with_reducible apply Mir.ev_expr); exists ev_run)
  | ((with_reducible apply Mir.ev_ret); exists ev_run)
  | with_reducible exact Mir.ev_retN
  | ((with_reducible apply Mir.ev_seq) <;> exists ev_run)
  | ((with_reducible apply Mir.thn_n); exists ev_run) | with_reducible exact Mir.thn_r
  | ((with_reducible apply Mir.ev_asg) <;> exists ev_run)
  | ((with_reducible apply Mir.ev_par); exists ev_run; exists wipe_run)
  | ((with_reducible apply Mir.ev_par3); exists ev_run; exists wipe_run)
  | ((with_reducible apply Mir.ev_parG); exists ev_run; exact rfl; decide; exists ev_run)
  | ((with_reducible apply Mir.ev_sif) <;> exists ev_run)
  | ((with_reducible apply Mir.ev_isi); exists ev_run; exists ev_run; exact rfl; exists isi_run))
local macro_rules | `(tactic| exists ix_run) => `(tactic| first
  | ((with_reducible apply Mir.ixv_p); exists op_run)
  | ((with_reducible apply Mir.ixv_l); exists cell_run; exists at_run) | ((with_reducible apply Mir.ixv_v); exists cell_run; exists at_run) | ((with_reducible apply Mir.ixv_f); exists cell_run; exists op_run))
local macro_rules | `(tactic| exists at_run) => `(tactic| first | with_reducible exact Mir.atI_0 _ _ | with_reducible exact Mir.atI_1 _ _ _ | with_reducible exact Mir.atI_2 _ _ _ _ | (with_reducible apply Mir.at_ms) <;> exists sd_run | (with_reducible apply Mir.at_mn) <;> exists sd_run | (with_reducible apply Mir.at_m0) <;> exists sd_run | with_reducible assumption)
local macro_rules | `(tactic| exists fz_run) => `(tactic| first | with_reducible exact Mir.fr_p | with_reducible exact Mir.frzs_z | (with_reducible apply Mir.frzs_s) <;> exists fz_run | exact Mir.frz_fz (by exists cell_run) | exact Mir.frz_lst (by exists cell_run))
local macro_rules | `(tactic| exists wipe_run) => `(tactic| first | (focus dsimp only [Mir.wipeE, List.set, List.map]; done) | (focus dsimp only [Mir.wipeE, List.set, List.map]; with_reducible exact rfl) | with_reducible exact rfl)
local macro_rules | `(tactic| exists perm_run) => `(tactic| first | (focus simp only [Mir.permL, List.map, List.cons_append, List.nil_append, List.getD_cons_zero, List.getD_cons_succ]; done) | (focus simp only [Mir.permL, List.map, List.cons_append, List.nil_append, List.getD_cons_zero, List.getD_cons_succ]; with_reducible exact rfl))
local macro_rules | `(tactic| exists fld_run) => `(tactic| first | with_reducible assumption | apply_assumption (transparency := .reducible) only [*])
local macro_rules | `(tactic| exists def_run) => `(tactic| ((with_reducible apply Mir.ev_mkF); exact rfl; (first | (focus dsimp only [List.map, List.replicate, List.cons_append, List.nil_append]; done) | (focus dsimp only [List.map, List.replicate, List.cons_append, List.nil_append]; with_reducible exact rfl)); exists ev_run; exists end_run))
local macro_rules | `(tactic| exists end_run) => `(tactic| first | with_reducible exact Mir.end_self | with_reducible exact Mir.end_nx | with_reducible exact Mir.end_app | with_reducible exact Mir.end_nxa)
local macro_rules | `(tactic| exists fun_run) => `(tactic| (apply Eq.trans; exists def_run; first | with_reducible exact rfl | skip))
local macro_rules | `(tactic| exists lcx_run) => `(tactic| first | with_reducible exact Mir.lcx_nil | ((with_reducible apply Mir.lcx_yes); exists ev_run; exists ev_run; exists fz_run; exists lcx_run) | ((with_reducible apply Mir.lcx_s); exists ev_run; exists ev_run; (intro _; exists ev_run); exists lcx_run))
local macro_rules | `(tactic| exists dat_run) => `(tactic| first | with_reducible assumption | exact rfl)
local macro_rules | `(tactic| exists not_run) => `(tactic| first | with_reducible exact Bool.not_true | with_reducible exact Bool.not_false | with_reducible exact rfl)
local macro_rules | `(tactic| exists forx_run) => `(tactic| first | with_reducible exact Mir.forx_nil | ((with_reducible apply Mir.forx_cons); exists ev_run; exists ev_run; exists forx_run))
local macro_rules | `(tactic| exists isi_run) => `(tactic| first | ((with_reducible apply Mir.isi_t); exact rfl) | ((with_reducible apply Mir.isi_f); exact rfl))
local macro_rules | `(tactic| exists sq_run) => `(tactic| first | assumption | omega | (focus have := List.mem_range.mp (by assumption); omega))

namespace Law
open PySem L2 Mir Pl
theorem fldn_order (n : Nat) (order near : List (List Nat)) (S : Sto) : fldV "Space" "order" (nv S (.p (spcP n order near))) S = .ok (.p (.lst (txts order))) S := fld_order n order near S
theorem fldn_seen (n : Nat) (order near : List (List Nat)) (S : Sto) : fldV "Space" "seen" (nv S (.p (spcP n order near))) S = .ok (.p (.lst (nums (bitsL near)))) S := fld_seen n order near S
theorem fldn_told (n : Nat) (order near : List (List Nat)) (S : Sto) : fldV "Space" "told" (nv S (.p (spcP n order near))) S = .ok (.p (.str (textT n order near))) S := fld_told n order near S
end Law
local macro_rules | `(tactic| exists fld_run) => `(tactic| first | with_reducible exact Law.fldn_order _ _ _ _ | with_reducible exact Law.fldn_seen _ _ _ _ | with_reducible exact Law.fldn_told _ _ _ _)

namespace Law
open PySem L2 Mir Pl
section
variable {n : Nat} {order near : List (List Nat)} (h : Spc n order near)
include h
end
end Law

namespace Law
open PySem L2 Mir Pl
end Law

namespace Law
open PySem L2 Mir Pl
section
variable {n : Nat} {order near : List (List Nat)} (h : Spc n order near)
include h
theorem Spc.pick_nm {l : List Nat} (hl : Lot n l) : ∀ x ∈ pick order l, NameOk x := fun x hx => by
  obtain ⟨j, hj, rfl⟩ := List.mem_map.mp hx
  exact h.at_ (hl.lt j hj)
theorem Spc.dat {l : List Nat} (hl : Lot n l) (m : Nat) : (setP order l).dat (m + 1) = true := datL_of fun x hx => (h.pick_nm hl x hx).asc
theorem Spc.sz {l : List Nat} (hl : Lot n l) : (setP order l).sz ≤ 22000 := by
  show szL _ + 4 ≤ 22000
  have h1 := szL_map (f := P.str) (c := 82) (l := pick order l) fun x hx => by
    have := (h.pick_nm hl x hx).len
    show 10 * x.length + 2 ≤ 82
    omega
  have h2 := hl.len
  have h3 := h.le
  have h4 : (pick order l).length = l.length := by unfold pick; rw [List.length_map]
  unfold txts
  omega
end
end Law

namespace Pl
end Pl
namespace Law
open PySem L2 Mir Pl
end Law

namespace Law
open PySem L2 Mir Pl
theorem end_len {S S1 : Sto} {x : P} (h : S1.length = S.length) : endF S.length (.ok (.rt (.p x)) S1) = .ok (.p x) S1 := by
  rw [endF_p, take_len h]
section
variable {n : Nat} {order near : List (List Nat)} (h : Spc n order near)
include h
end
end Law

namespace Mir
open L2
theorem cutP_map {A B : Type} (f : A → B) (xs : List A) (lo hi : Option Int) : cutP (xs.map f) lo hi = (cutP xs lo hi).map f := by
  unfold cutP
  rw [List.length_map, List.map_take, List.map_drop]
theorem cutP_len {A : Type} (xs : List A) (lo hi : Option Int) : (cutP xs lo hi).length ≤ xs.length := by
  unfold cutP
  rw [List.length_take, List.length_drop]
  omega
end Mir
namespace Law
open PySem L2 Mir Pl
def scrP (ns : List Int) : P := .scr (ns.map P.int)
theorem urn_of_ok {ns : List Int} (hn : ns.length ≤ 63) {t : Nat} (ht : t < 100) (S : Sto) : ∃ S', m__law_urn_of [.p (scrP ns), .p (.int (t : Int))] S = .ok (.c S.length) S' ∧ Urn S' S.length ∧ S'.length = S.length + 1 ∧ ∃ c, S' = S ++ [c] := by
  obtain ⟨cell, hcell⟩ : ∃ cell : Int, eIfM (tVal (eBin bLt (eVar 1) (eCall pLen (aCons (eVar 0) aNil)))) (eItem (eVar 0) (eVar 1)) (eC (.int 0)) [some (.p (scrP ns)), some (.p (.int (t : Int))), none, none, none, none] S = .ok (.p (.int cell)) S := by
    have e1 : tVal (eBin bLt (eVar 1) (eCall pLen (aCons (eVar 0) aNil))) [some (.p (scrP ns)), some (.p (.int (t : Int))), none, none, none, none] S = .ok (decide ((t : Int) < ((ns.length : Nat) : Int))) S := by
      have e0 : pLen [scrP ns] = some (.int ((ns.length : Nat) : Int)) := by
        unfold scrP
        rw [pLen_scr, List.length_map]
      have e2 : eCall pLen (aCons (eVar 0) aNil) [some (.p (scrP ns)), some (.p (.int (t : Int))), none, none, none, none] S = .ok (.p (.int ((ns.length : Nat) : Int))) S := eCall1_of rfl e0
      exact ev_tval (ev_bin (d := .p (.int (t : Int))) rfl e2 (rd_p _ _) (rd_p _ _) rfl)
    by_cases h : t < ns.length
    · have h2 : ((t : Int) < ((ns.length : Nat) : Int)) := by omega
      rw [decide_eq_true h2] at e1
      refine ⟨ns[t], ev_if e1 (ifK_t (ev_item (d := .p (scrP ns)) (e := .p (.int (t : Int))) rfl rfl (ixv_p ?_)))⟩
      show atI (ns.map P.int) (t : Int) = _
      refine atN ?_
      rw [List.getElem?_map, List.getElem?_eq_getElem h]
      rfl
    · have h2 : ¬ ((t : Int) < ((ns.length : Nat) : Int)) := by omega
      rw [decide_eq_false h2] at e1
      exact ⟨0, ev_if e1 (ifK_f ev_c)⟩
  have bm : ∀ i : Int, bMul 80021 i = true := fun i => bMul_l (by decide) (by decide)
  have bm2 : ∀ i : Int, bMul 26 i = true := fun i => bMul_l (by decide) (by decide)
  have bm3 : ∀ i : Int, bMul 5 i = true := fun i => bMul_l (by decide) (by decide)
  have bm4 : ∀ i : Int, bMul 66029 i = true := fun i => bMul_l (by decide) (by decide)
  have mm : ∀ i : Int, bMod i 2147483323 = true := fun i => bMod_of (by decide)
  have opm : ∀ {i j : Int}, bMul i j = true → pMul (.int i) (.int j) = some (.int (i * j)) := fun h => by rw [pMul_int, h, if_pos rfl]
  have opr : ∀ {i : Int}, pIC bMod (fun i j => i % j) (.int i) (.int 2147483323) = some (.int (i % 2147483323)) := by
    intro i
    rw [pIC_int, mm, if_pos rfl]
  have go : WS (b__law_urn_of [some (.p (scrP ns)), some (.p (.int (t : Int))), none, none, none, none] S) fun f T => ∃ a b : Int, f = .rt (.c S.length) ∧ T = S ++ [.lst [.int a, .int b, .int 0]] ∧ 0 ≤ a ∧ 0 ≤ b ∧ b < 2147483323 := by
    unfold b__law_urn_of
    have e1 : eBin pAdd (eC (.int 3001)) (eBin pMul (eC (.int 80021)) (eVar 1)) [some (.p (scrP ns)), some (.p (.int (t : Int))), none, none, none, none] S = .ok (.p (.int (3001 + 80021 * (t : Int)))) S :=
      ev_bin ev_c (ev_bin ev_c (ev_var rfl) (rd_p _ _) (rd_p _ _) (opm (bm _))) (rd_p _ _) (rd_p _ _) rfl
    refine ws_seq (ev_par (ev_acons hcell (ev_acons e1 ev_anil)) rfl) ?_
    have hi : itEnum (eSl (eVar 0) oNo (oYes (eC (.int 7)))) [some (.p (scrP ns)), some (.p (.int (t : Int))), some (.p (.int cell)), some (.p (.int (3001 + 80021 * (t : Int)))), none, none] S = .ok ((List.range (cutP ns none (some 7)).length).map fun (i : Nat) => P.tup [.int (i : Int), .int ((cutP ns none (some 7)).getD i 0)]) S := by
      have e2 : pSl none (some 7) (scrP ns) = some (.lst ((cutP ns none (some 7)).map P.int)) := by
        show some (P.lst (cutP (ns.map P.int) none (some 7))) = _
        rw [cutP_map]
      exact ev_enum_map (f := P.int) (ev_sl (d := .p (scrP ns)) rfl ev_ono (ev_oyes ev_c) (rd_p _ _) e2)
    have hl := cutP_len ns none (some 7)
    refine ws_seqW (ws_forM (us := List.range (cutP ns none (some 7)).length) (fun i ρ T => (∃ mx a4 a5, ρ = [some (.p (scrP ns)), some (.p (.int (t : Int))), some (.p (.int cell)), some (.p (.int mx)), a4, a5]) ∧ T = S) hi ⟨⟨_, _, _, rfl⟩, rfl⟩ ?_ ?_)
    · rintro i u ρ T hu ⟨⟨mx, a4, a5, rfl⟩, rfl⟩
      have hu2 : u < 63 := by
        have := List.mem_range.mp (List.mem_of_getElem? hu)
        omega
      refine ⟨_, _, rfl, ws_of (ev_asg (ev_bin (ev_call (ev_acons (ev_bin (ev_bin (ev_var rfl) (ev_bin ev_c (ev_bin ev_c (ev_var rfl) (rd_p _ _) (rd_p _ _) (opm (bm2 _))) (rd_p _ _) (rd_p _ _) rfl) (rd_p _ _) (rd_p _ _) (opm ?_)) (ev_bin ev_c (ev_var rfl) (rd_p _ _) (rd_p _ _) (opm (bm3 _))) (rd_p _ _) (rd_p _ _) rfl) ev_anil) (rds_c (rd_p _ _) (rds_nil _)) rfl) ev_c (rd_p _ _) (rd_p _ _) opr) rfl) ⟨_, .inl rfl, ⟨_, _, _, rfl⟩, rfl⟩⟩
      exact bMul_r (by omega) (by omega)
    · rintro ρ' S' ⟨⟨mx, a4, a5, rfl⟩, rfl⟩
      have hb : ∃ a : Int, 0 ≤ a ∧ eIfM (tOrM (tVal (eBin bLt (eVar 2) (eC (.int 0)))) (tVal (eBin (pIB fun i j => decide (j ≤ i)) (eVar 2) (eBin (pIC bPow fun i j => i ^ j.toNat) (eC (.int 10)) (eC (.int 17)))))) (eCall pAbs (aCons (eVar 2) aNil)) (eC (.int 0)) [some (.p (scrP ns)), some (.p (.int (t : Int))), some (.p (.int cell)), some (.p (.int mx)), a4, a5] S' = .ok (.p (.int a)) S' := by
        have et : ∃ q : Bool, tOrM (tVal (eBin bLt (eVar 2) (eC (.int 0)))) (tVal (eBin (pIB fun i j => decide (j ≤ i)) (eVar 2) (eBin (pIC bPow fun i j => i ^ j.toNat) (eC (.int 10)) (eC (.int 17))))) [some (.p (scrP ns)), some (.p (.int (t : Int))), some (.p (.int cell)), some (.p (.int mx)), a4, a5] S' = .ok q S' := by
          have x1 : tVal (eBin bLt (eVar 2) (eC (.int 0))) [some (.p (scrP ns)), some (.p (.int (t : Int))), some (.p (.int cell)), some (.p (.int mx)), a4, a5] S' = .ok (decide (cell < 0)) S' := ev_tval (ev_bin (ev_var rfl) ev_c (rd_p _ _) (rd_p _ _) rfl)
          have x2 : tVal (eBin (pIB fun i j => decide (j ≤ i)) (eVar 2) (eBin (pIC bPow fun i j => i ^ j.toNat) (eC (.int 10)) (eC (.int 17)))) [some (.p (scrP ns)), some (.p (.int (t : Int))), some (.p (.int cell)), some (.p (.int mx)), a4, a5] S' = .ok (decide ((10 : Int) ^ 17 ≤ cell)) S' :=
            ev_tval (ev_bin (ev_var rfl) (ev_bin ev_c ev_c (rd_p _ _) (rd_p _ _) (show pIC bPow (fun i j => i ^ j.toNat) (.int 10) (.int 17) = some (.int ((10 : Int) ^ 17)) from by rw [pIC_int, if_pos (by decide)]; rfl)) (rd_p _ _) (rd_p _ _) rfl)
          exact ⟨_, ev_tor x1 (orK_s fun _ => x2)⟩
        obtain ⟨q, et⟩ := et
        cases q with
        | true => exact ⟨if cell < 0 then -cell else cell, by split <;> omega, ev_if et (ifK_t (ev_call (ev_acons (ev_var rfl) ev_anil) (rds_c (rd_p _ _) (rds_nil _)) (pAbs_int _)))⟩
        | false => exact ⟨0, by decide, ev_if et (ifK_f ev_c)⟩
      obtain ⟨a, ha, hb⟩ := hb
      refine ⟨_, rfl, ws_of (ev_ret (ev_lstC (ev_acons hb (ev_acons (ev_bin (ev_call (ev_acons (ev_bin (ev_var rfl) (ev_bin ev_c (ev_var rfl) (rd_p _ _) (rd_p _ _) (opm (bm4 _))) (rd_p _ _) (rd_p _ _) rfl) ev_anil) (rds_c (rd_p _ _) (rds_nil _)) rfl) ev_c (rd_p _ _) (rd_p _ _) opr) (ev_acons ev_c ev_anil))) (frzs_s fr_p (frzs_s fr_p (frzs_s fr_p frzs_z))) (by simp))) ⟨a, _, rfl, rfl, ha, Int.emod_nonneg _ (by decide), Int.emod_lt_of_pos _ (by decide)⟩⟩
  obtain ⟨f, T, e, a, b, rfl, rfl, ha, hb0, hb1⟩ := go
  refine ⟨S ++ [.lst [.int a, .int b, .int 0]], ?_, ⟨a, b, 0, by simp, ha, hb0, hb1, by decide⟩, by simp, _, rfl⟩
  unfold m__law_urn_of
  have hk : mkK 2 4 b__law_urn_of [.p (scrP ns), .p (.int (t : Int))] S = endK S.length (b__law_urn_of [some (.p (scrP ns)), some (.p (.int (t : Int))), none, none, none, none] S) := rfl
  rw [hk, e]
  unfold endK
  dsimp only
  have h0 : (S ++ [Cell.lst [.int a, .int b, .int 0]])[S.length]? = some (.lst [.int a, .int b, .int 0]) := by simp
  rw [if_neg (by omega), h0]
  dsimp only
  rw [take_app]
theorem law_loop {R U : MF} {ns : List Int} (hR : ∀ S k, Urn S k → ∃ S', R [.c k] S = .ok (.p (.bl true)) S') (hU : ∀ t S, t < 100 → ∃ S', U [.p (scrP ns), .p (.int ((t : Nat) : Int))] S = .ok (.c S.length) S' ∧ Urn S' S.length) :
    ∀ (l : List Nat) (S : Sto), (∀ t ∈ l, t < 100) → ∃ S', lcGo (gNm 1) tsYes (eFn R (aCons (eFn U (aCons (eVar 0) (aCons (eVar 1) aNil))) aNil)) [some (.p (scrP ns)), none] (l.map fun (k : Nat) => P.int (k : Int)) S = .ok (l.map fun _ => P.bl true) S'
  | [], S, _ => ⟨S, rfl⟩
  | t :: l, S, h => by
    obtain ⟨S1, e1, u1⟩ := hU t S (h t List.mem_cons_self)
    obtain ⟨S2, e2⟩ := hR S1 S.length u1
    obtain ⟨S3, e3⟩ := law_loop hR hU l S2 fun x hx => h x (List.mem_cons_of_mem _ hx)
    exact ⟨S3, lcx_yes rfl (ev_fn (ev_acons (ev_fn (ev_acons (ev_var rfl) (ev_acons (ev_var rfl) ev_anil)) e1) ev_anil) e2) fr_p e3⟩
theorem law_end {R U : MF} {K : Nat} (hK : 2 ≤ K) (hK2 : K < 100) {ns : List Int} (hR : ∀ S k, Urn S k → ∃ S', R [.c k] S = .ok (.p (.bl true)) S') (hU : ∀ t S, t < 100 → ∃ S', U [.p (scrP ns), .p (.int ((t : Nat) : Int))] S = .ok (.c S.length) S' ∧ Urn S' S.length) {kl : Int} (hkl : kl = (K : Int)) (S : Sto) :
    ∃ S', mkF 1 1 (sRet (eCall pAll (aCons (eLc (itRange1 (eCall pMax2 (aCons (eC (.int 2)) (aCons (eCall pMin2 (aCons (eCall pLen (aCons (eVar 0) aNil)) (aCons (eC (.int kl)) aNil))) aNil)))) [1] (gNm 1) tsYes (eFn R (aCons (eFn U (aCons (eVar 0) (aCons (eVar 1) aNil))) aNil))) aNil))) [.p (scrP ns)] S = .ok (.p (.bl true)) S' := by
  have e0 : pLen [scrP ns] = some (.int ((ns.length : Nat) : Int)) := by
    unfold scrP
    rw [pLen_scr, List.length_map]
  let n : Nat := max 2 (min ns.length K)
  have hr : itRange1 (eCall pMax2 (aCons (eC (.int 2)) (aCons (eCall pMin2 (aCons (eCall pLen (aCons (eVar 0) aNil)) (aCons (eC (.int kl)) aNil))) aNil))) [some (.p (scrP ns)), none] S = .ok ((List.range n).map fun (k : Nat) => P.int (k : Int)) S := by
    refine ev_range1i (i := ((n : Nat) : Int)) ?_ rfl (by omega)
    have e1 : pMax2 [.int 2, .int (if kl < ((ns.length : Nat) : Int) then kl else ((ns.length : Nat) : Int))] = some (.int ((n : Nat) : Int)) := by
      show some (P.int (if (if kl < ((ns.length : Nat) : Int) then kl else ((ns.length : Nat) : Int)) > 2 then (if kl < ((ns.length : Nat) : Int) then kl else ((ns.length : Nat) : Int)) else 2)) = _
      congr 2
      subst hkl
      split <;> split <;> omega
    exact ev_call (ev_acons ev_c (ev_acons (ev_call (ev_acons (ev_call (ev_acons (ev_var rfl) ev_anil) (rds_c (rd_p _ _) (rds_nil _)) e0) (ev_acons ev_c ev_anil)) (rds_c (rd_p _ _) (rds_c (rd_p _ _) (rds_nil _))) rfl) ev_anil)) (rds_c (rd_p _ _) (rds_c (rd_p _ _) (rds_nil _))) e1
  obtain ⟨S', e⟩ := law_loop (R := R) (U := U) hR hU (List.range n) S fun t ht => by
    have := List.mem_range.mp ht
    omega
  refine ⟨S'.take S.length, ev_mkF rfl rfl (ev_ret (ev_call (ev_acons (ev_lcx hr (by rw [List.length_map, List.length_range]; omega) rfl e) ev_anil) (rds_c (rd_p _ _) (rds_nil _)) op_all)) ?_⟩
  rw [endF_p]
  simp
end Law

namespace Pl
end Pl
namespace Law
open PySem L2 Mir Pl
section
variable {n : Nat} {near : List (List Nat)} (h : Near n near) (hn : n ≤ 256)
include h hn
end
end Law

namespace Law
open PySem L2 Mir Pl
section
variable {n : Nat} {near : List (List Nat)} (h : Near n near) (hn : n ≤ 256)
include h hn
end
section
variable {n : Nat} {order near : List (List Nat)} (h : Spc n order near)
include h
end
end Law

namespace Pl
open Law
section
variable {n : Nat} {near : List (List Nat)}
variable (h : Near n near)
include h
end
end Pl

namespace Law
open PySem L2 Mir Pl
structure RwS (S : Sto) (kr kl kf : Nat) (L : List Row) : Prop where
  ins : S[kr]? = some (.ins "Rows" ["listed", "found"] [.c kl, .c kf])
  lst : S[kl]? = some (.lst (L.map rwP))
  dct : S[kf]? = some (.dcT (L.map rwK) (nums (List.range L.length)))
theorem nv_ins {S : Sto} {k : Nat} {c : Str} {ns : List Str} {xs : List Vl} (h : S[k]? = some (.ins c ns xs)) : nv S (.c k) = .c k := by
  unfold nv
  dsimp only
  rw [h]
section
variable {S : Sto} {kr kl kf : Nat} {L : List Row}
theorem RwS.listed (h : RwS S kr kl kf L) : fldV "Rows" "listed" (nv S (.c kr)) S = .ok (.c kl) S := by
  rw [nv_ins h.ins]
  unfold fldV
  dsimp only
  rw [h.ins]
  dsimp only
  rw [if_pos rfl]
  unfold fldOf
  rw [if_pos rfl]
theorem RwS.found (h : RwS S kr kl kf L) : fldV "Rows" "found" (nv S (.c kr)) S = .ok (.c kf) S := by
  rw [nv_ins h.ins]
  unfold fldV
  dsimp only
  rw [h.ins]
  dsimp only
  rw [if_pos rfl]
  unfold fldOf
  rw [if_neg (by decide)]
  unfold fldOf
  rw [if_pos rfl]
theorem dKey_tup {i : Nat} {r : Row} (h : S[i]? = some (.tup (rwPs r))) : dKey S (.c i) = some (rwK r) := by
  unfold dKey
  dsimp only
  rw [h]
  dsimp only
  exact kys_row r
theorem at_rows (r : Row) (L : List Row) : atKy (rwK r) (L.map rwK) (nums (List.range L.length)) = if r ∈ L then some (P.int ((L.idxOf r : Nat) : Int)) else none := by
  have := atKy_row r L 0
  rw [Nat.zero_add, ← List.range_eq_range'] at this
  exact this
theorem RwS.at (h : RwS S kr kl kf L) {i : Nat} {r : Row} (hi : S[i]? = some (.tup (rwPs r))) : dAt S (.c i) (.c kf) = if r ∈ L then some (P.int ((L.idxOf r : Nat) : Int)) else none := by
  unfold dAt
  rw [dKey_tup hi]
  dsimp only
  rw [h.dct]
  dsimp only
  exact at_rows r L
theorem RwS.has (h : RwS S kr kl kf L) {i : Nat} {r : Row} (hi : S[i]? = some (.tup (rwPs r))) : dHas S (.c i) (.c kf) = some (decide (r ∈ L)) := by
  unfold dHas
  rw [dKey_tup hi]
  dsimp only
  rw [h.dct]
  dsimp only
  rw [at_rows]
  by_cases z : r ∈ L
  · rw [if_pos z]; simp [z]
  · rw [if_neg z]; simp [z]
theorem RwS.put (h : RwS S kr kl kf L) {i : Nat} {r : Row} (hi : S[i]? = some (.tup (rwPs r))) (hr : r ∉ L) (hL : L.length < 1000) : dPut S (.c i) (.c kf) (.int ((L.length : Nat) : Int)) = some (S.set kf (.dcT ((L ++ [r]).map rwK) (nums (List.range (L ++ [r]).length)))) := by
  unfold dPut
  rw [dKey_tup hi]
  dsimp only
  rw [h.dct]
  dsimp only
  rw [at_rows, if_neg hr, if_pos ⟨rfl, by rw [List.length_map]; omega⟩]
  congr 2
  have e1 : (L ++ [r]).map rwK = L.map rwK ++ [rwK r] := by simp
  have e2 : nums (List.range (L ++ [r]).length) = nums (List.range L.length) ++ [.int ((L.length : Nat) : Int)] := by
    rw [List.length_append]
    show nums (List.range (L.length + 1)) = _
    rw [List.range_succ]
    unfold nums
    simp
  rw [e1, e2]
theorem ne_of_at {i j : Nat} {x y : Cell} (h : S[i]? = some x) (h2 : S[j]? = some y) (hxy : x ≠ y) : i ≠ j := fun z => by
  subst z
  rw [h] at h2
  exact hxy (Option.some.inj h2)
theorem lt_of_at {i : Nat} {x : Cell} (h : S[i]? = some x) : i < S.length := (List.getElem?_eq_some_iff.mp h).1
theorem rnumber_ok (h : RwS S kr kl kf L) {i : Nat} {r : Row} (hi : S[i]? = some (.tup (rwPs r))) (hL : L.length < 1000) :
    ∃ S', m_Rows_number_of [.c kr, .c i] S = .ok (.p (.int ((L.idxOf r : Nat) : Int))) S' ∧ RwS S' kr kl kf (numL L r) ∧ S'.length = S.length ∧ ∀ j, j ≠ kl → j ≠ kf → S'[j]? = S[j]? := by
  have f1 := h.listed
  have f2 := h.found
  have d1 := h.has hi
  have d2 := h.at hi
  by_cases hr : r ∈ L
  · refine ⟨S, ?_, ?_, rfl, fun _ _ _ => rfl⟩
    · unfold m_Rows_number_of b_Rows_number_of
      refine ws_mkFe (ρ := [some (.c kr), some (.c i)]) rfl rfl ?_
      rw [if_pos hr] at d2
      have t1 : tVal (eNotInT (eVar 1) (eFld "Rows" "found" (eVar 0))) [some (.c kr), some (.c i)] S = .ok false S := ev_tval (ev_notInT (q := true) (ev_var rfl) (ev_fld (ev_var rfl) f2) (by rw [d1]; simp [hr]) rfl)
      refine ws_seq (ev_sif t1 (ifK_f ev_pass)) ?_
      exact ws_of (ev_ret (ev_itemT (ev_fld (ev_var rfl) f2) (ev_var rfl) d2)) (end_len rfl)
    · unfold numL
      rw [if_pos hr]
      exact h
  · have n1 : kl ≠ kf := ne_of_at h.lst h.dct (by simp)
    have n2 : kr ≠ kl := ne_of_at h.ins h.lst (by simp)
    have n3 : kr ≠ kf := ne_of_at h.ins h.dct (by simp)
    have n4 : i ≠ kl := ne_of_at hi h.lst (by simp)
    have n5 : i ≠ kf := ne_of_at hi h.dct (by simp)
    have p1 := h.put hi hr hL
    have hf := lt_of_at h.dct
    have hl := lt_of_at h.lst
    have rs : RwS ((S.set kf (.dcT ((L ++ [r]).map rwK) (nums (List.range (L ++ [r]).length)))).set kl (.lst ((L ++ [r]).map rwP))) kr kl kf (L ++ [r]) := by
      refine ⟨?_, ?_, ?_⟩
      · rw [List.getElem?_set_ne (Ne.symm n2), List.getElem?_set_ne (Ne.symm n3)]; exact h.ins
      · rw [List.getElem?_set_self (by rw [List.length_set]; exact hl)]
      · rw [List.getElem?_set_ne n1, List.getElem?_set_self hf]
    have hi2 : ((S.set kf (.dcT ((L ++ [r]).map rwK) (nums (List.range (L ++ [r]).length)))).set kl (.lst ((L ++ [r]).map rwP)))[i]? = some (.tup (rwPs r)) := by
      rw [List.getElem?_set_ne (Ne.symm n4), List.getElem?_set_ne (Ne.symm n5)]; exact hi
    refine ⟨(S.set kf (.dcT ((L ++ [r]).map rwK) (nums (List.range (L ++ [r]).length)))).set kl (.lst ((L ++ [r]).map rwP)), ?_, ?_, ?_, fun j hj hj2 => ?_⟩
    · unfold m_Rows_number_of b_Rows_number_of
      refine ws_mkFe (ρ := [some (.c kr), some (.c i)]) rfl rfl ?_
      have t1 : tVal (eNotInT (eVar 1) (eFld "Rows" "found" (eVar 0))) [some (.c kr), some (.c i)] S = .ok true S := ev_tval (ev_notInT (q := false) (ev_var rfl) (ev_fld (ev_var rfl) f2) (by rw [d1]; simp [hr]) rfl)
      have l1 : eCall pLen (aCons (eFld "Rows" "listed" (eVar 0)) aNil) [some (.c kr), some (.c i)] S = .ok (.p (.int ((L.length : Nat) : Int))) S := ev_call (ev_acons (ev_fld (ev_var rfl) f1) ev_anil) (rds_c (rd_lst h.lst) (rds_nil _)) op_lenLm
      have s1 : sPutT (eCall pLen (aCons (eFld "Rows" "listed" (eVar 0)) aNil)) (eFld "Rows" "found" (eVar 0)) (eVar 1) [some (.c kr), some (.c i)] S = .ok (.nx [some (.c kr), some (.c i)]) (S.set kf (.dcT ((L ++ [r]).map rwK) (nums (List.range (L ++ [r]).length)))) := ev_putT l1 (ev_fld (ev_var rfl) f2) (ev_var rfl) p1
      have k1 : (S.set kf (.dcT ((L ++ [r]).map rwK) (nums (List.range (L ++ [r]).length))))[kl]? = some (.lst (L.map rwP)) := by
        rw [List.getElem?_set_ne (Ne.symm n1)]; exact h.lst
      have k2 : (S.set kf (.dcT ((L ++ [r]).map rwK) (nums (List.range (L ++ [r]).length))))[kr]? = some (.ins "Rows" ["listed", "found"] [.c kl, .c kf]) := by
        rw [List.getElem?_set_ne (Ne.symm n3)]; exact h.ins
      have k3 : (S.set kf (.dcT ((L ++ [r]).map rwK) (nums (List.range (L ++ [r]).length))))[i]? = some (.tup (rwPs r)) := by
        rw [List.getElem?_set_ne (Ne.symm n5)]; exact hi
      have f3 : fldV "Rows" "listed" (nv (S.set kf (.dcT ((L ++ [r]).map rwK) (nums (List.range (L ++ [r]).length)))) (.c kr)) (S.set kf (.dcT ((L ++ [r]).map rwK) (nums (List.range (L ++ [r]).length)))) = .ok (.c kl) (S.set kf (.dcT ((L ++ [r]).map rwK) (nums (List.range (L ++ [r]).length)))) := by
        rw [nv_ins k2]
        unfold fldV
        dsimp only
        rw [k2]
        dsimp only
        rw [if_pos rfl]
        unfold fldOf
        rw [if_pos rfl]
      have a1 := app_t k1 k3 (by rw [List.length_map]; omega)
      have ea : L.map rwP ++ [P.tup (rwPs r)] = (L ++ [r]).map rwP := by simp [rwP]
      rw [ea] at a1
      refine ws_seq (ev_sif t1 (ifK_t (ev_seq s1 (thn_n (ev_expr (ev_mut (ev_fld (ev_var rfl) f3) (isL_c k1) (ev_acons (ev_var rfl) ev_anil) a1)))))) ?_
      have d3 := rs.at hi2
      rw [if_pos (by simp)] at d3
      have ex : (L ++ [r]).idxOf r = L.idxOf r := by
        rw [List.idxOf_append, if_neg hr, List.idxOf_cons_self, List.idxOf_eq_length hr]
        omega
      rw [ex] at d3
      exact ws_of (ev_ret (ev_itemT (ev_fld (ev_var rfl) rs.found) (ev_var rfl) d3)) (end_len (by simp))
    · unfold numL
      rw [if_neg hr]
      exact rs
    · simp
    · rw [List.getElem?_set_ne (Ne.symm hj), List.getElem?_set_ne (Ne.symm hj2)]
end
end Law

namespace Law
open PySem L2 Mir Pl
def tdV : Option Nat → Vl
  | none => .p .non
  | some r => .p (.int (r : Int))
def enR (kr ko : Nat) (tx : List Nat) (told : Option Nat) (pos : Nat) (a5 : Option Vl) : En := [some (.c kr), some (.p (.str tx)), some (tdV told), some (.c ko), some (.p (.int (pos : Int))), a5]
abbrev tsR1 : MT := (tAndM (tVal (eIsN (eVar 2))) (tVal (eBin pIn2 (eVar 5) (eC (.tup [(.str [120]), (.str [121]), (.str [122]), (.str [48]), (.str [49])])))))
abbrev tsR2 : MT := (tAndM (tVal (eIsN (eVar 2))) (tAndM (tVal (eBin pIn2 (eVar 5) (eC (.tup [(.str [99]), (.str [105]), (.str [110])])))) (tVal (eBin pEq (eSl (eVar 1) (oYes (eBin pAdd (eVar 4) (eC (.int 1)))) (oYes (eBin pAdd (eVar 4) (eC (.int 2))))) (eC (.str [40]))))))
abbrev tsR3 : MT := (tAndM (tVal (eIsN (eVar 2))) (tVal (eBin pEq (eVar 5) (eC (.str [40])))))
abbrev tsR4 : MT := (tOrM (tVal (eIsN (eVar 2))) (tVal (eBin pEq (eVar 3) (eLst aNil))))
abbrev tsR5 : MT := (tAndM (tVal (eBin pEq (eVar 5) (eC (.str [41])))) (tVal (eBin pNe (eItem (eItem (eVar 3) (eUn pNeg (eC (.int 1)))) (eC (.int 0))) (eC (.str [40])))))
abbrev tsR6 : MT := (tAndM (tVal (eBin pEq (eItem (eVar 3) (eUn pNeg (eC (.int 1)))) (eTup (aCons (eC (.str [40])) aNil)))) (tVal (eBin pIn2 (eSl (eVar 1) (oYes (eVar 4)) (oYes (eBin pAdd (eVar 4) (eC (.int 3))))) (eTup (aCons (eC (.str [32, 38, 32])) (aCons (eC (.str [32, 124, 32])) aNil))))))
abbrev bdR1 : MS := (sPar 2 4 (aCons (eMeth "Rows" "number_of" m_Rows_number_of (eVar 0) (aCons (eTupT (aCons (eVar 5) aNil)) aNil)) (aCons (eBin pAdd (eVar 4) (eC (.int 1))) aNil)))
abbrev bdR2 : MS := (sSeq (sExpr (eMut isL fApp (eVar 3) (aCons (eTup (aCons (eVar 5) aNil)) aNil))) (sAsg (eBin pAdd (eVar 4) (eC (.int 2))) (gNm 4)))
abbrev bdR3 : MS := (sSeq (sExpr (eMut isL fApp (eVar 3) (aCons (eTup (aCons (eC (.str [40])) aNil)) aNil))) (sAsg (eBin pAdd (eVar 4) (eC (.int 1))) (gNm 4)))
abbrev bdR5 : MS := (sPar 2 4 (aCons (eMeth "Rows" "number_of" m_Rows_number_of (eVar 0) (aCons (eTupT (aStar (eMut isL fPop (eVar 3) aNil) (aCons (eVar 2) aNil))) aNil)) (aCons (eBin pAdd (eVar 4) (eC (.int 1))) aNil)))
abbrev bdR6 : MS := (sSeq (sAsg (eTup (aCons (eItem (eVar 1) (eBin pAdd (eVar 4) (eC (.int 1)))) (aCons (eVar 2) aNil))) (gSubM (eVar 3) (eUn pNeg (eC (.int 1))))) (sPar 2 4 (aCons (eC .non) (aCons (eBin pAdd (eVar 4) (eC (.int 3))) aNil))))
abbrev bdR : MS := sSeq (sAsg (eItem (eVar 1) (eVar 4)) (gNm 5)) (sIf tsR1 bdR1 (sIf tsR2 bdR2 (sIf tsR3 bdR3 (sIf tsR4 (sRet (eC .non)) (sIf tsR5 bdR5 (sIf tsR6 bdR6 (sRet (eC .non))))))))
section
variable {S : Sto} {kr kl kf ko : Nat} {L : List Row}
theorem RwS.app (h : RwS S kr kl kf L) (c : List Cell) : RwS (S ++ c) kr kl kf L := by
  have a := lt_of_at h.ins
  have b := lt_of_at h.lst
  have d := lt_of_at h.dct
  exact ⟨by rw [List.getElem?_append_left a]; exact h.ins, by rw [List.getElem?_append_left b]; exact h.lst, by rw [List.getElem?_append_left d]; exact h.dct⟩
theorem RwS.set (h : RwS S kr kl kf L) {k : Nat} {c : Cell} (h1 : k ≠ kr) (h2 : k ≠ kl) (h3 : k ≠ kf) : RwS (S.set k c) kr kl kf L :=
  ⟨by rw [List.getElem?_set_ne h1]; exact h.ins, by rw [List.getElem?_set_ne h2]; exact h.lst, by rw [List.getElem?_set_ne h3]; exact h.dct⟩
structure PI (S0 : Sto) (kr kl kf ko : Nat) (q : PSt) (S : Sto) : Prop where
  rs : RwS S kr kl kf q.L
  op : S[ko]? = some (.lst (q.op.reverse.map rwP))
  fr : ∀ j, j < S0.length → j ≠ kl → j ≠ kf → S[j]? = S0[j]?
  asc : ∀ f ∈ q.op, f.1 < 128 ∧ f.2.length ≤ 1
  smL : q.L.length ≤ q.pos + 600
  smO : q.op.length ≤ q.pos
theorem cut_nat {A : Type} (xs : List A) (i j : Nat) (h : i ≤ j) : cutP xs (some (i : Int)) (some (j : Int)) = (xs.drop i).take (j - i) := by
  unfold cutP
  rw [HT.sIx_nat, HT.sIx_nat]
  by_cases hi : i ≤ xs.length
  · rw [Nat.min_eq_left hi]
    by_cases hj : j ≤ xs.length
    · rw [Nat.min_eq_left hj]
    · rw [Nat.min_eq_right (by omega)]
      have e1 : ((xs.drop i).take (xs.length - i)) = xs.drop i := List.take_of_length_le (by simp)
      rw [e1, List.take_of_length_le]
      simp
      omega
  · rw [Nat.min_eq_right (by omega : xs.length ≤ i), Nat.min_eq_right (by omega : xs.length ≤ j), List.drop_eq_nil_of_le (by omega : xs.length ≤ i), List.drop_eq_nil_of_le (Nat.le_refl _)]
    simp
theorem add_lit {n : Nat} (k : Nat) : pAdd (.int (n : Int)) (.int ((k : Nat) : Int)) = some (.int ((n + k : Nat) : Int)) := op_addN
theorem asc_one {c : Nat} (h : c < 128) : asc [c] = true := by
  unfold asc
  simp
  omega
theorem asc_all {l : List Nat} (h : ∀ c ∈ l, c < 128) : asc l = true := by
  unfold asc
  rw [List.all_eq_true]
  intro c hc
  have := h c hc
  simp
  omega
end
end Law

namespace Law
open PySem L2 Mir Pl
section
variable {S : Sto} {kr kl kf ko : Nat} {L : List Row} {tx : List Nat} {told : Option Nat} {pos sg : Nat}
theorem isN_td : isN (tdV told) = told.isNone := by cases told <;> rfl
theorem in_plain : pIn2 (.str [sg]) (.tup [(.str [120]), (.str [121]), (.str [122]), (.str [48]), (.str [49])]) = some (.bl (decide (sg ∈ plainS))) := by
  have := op_inST' (x := [sg]) (l := [[120], [121], [122], [48], [49]])
  refine this.trans ?_
  unfold plainS
  simp
theorem in_deed : pIn2 (.str [sg]) (.tup [(.str [99]), (.str [105]), (.str [110])]) = some (.bl (decide (sg ∈ deedS))) := by
  have := op_inST' (x := [sg]) (l := [[99], [105], [110]])
  refine this.trans ?_
  unfold deedS
  simp
theorem eq_one (h : sg < 128) (c : Nat) (hc : c < 128) : pEq (.str [sg]) (.str [c]) = some (.bl (decide (sg = c))) := by
  rw [op_eqS (asc_one h) (asc_one hc)]
  by_cases z : sg = c
  · subst z; simp
  · simp [z]
theorem ne_one (h : sg < 128) (c : Nat) (hc : c < 128) : pNe (.str [sg]) (.str [c]) = some (.bl (!decide (sg = c))) := by
  rw [op_neS (asc_one h) (asc_one hc)]
  by_cases z : sg = c
  · subst z; simp
  · simp [z]
theorem sl_txt (hl : tx.length ≤ 300) (i j : Nat) (h : i ≤ j) : pSl (some (i : Int)) (some (j : Int)) (.str tx) = some (.str ((tx.drop i).take (j - i))) := by
  show (if tx.length ≤ 100000 then some (P.str (cutP tx (some (i : Int)) (some (j : Int)))) else none) = _
  rw [if_pos (by omega), cut_nat _ _ _ h]
theorem asc_sub (ha : ∀ c ∈ tx, c < 128) (i j : Nat) : asc ((tx.drop i).take j) = true := asc_all fun c hc => ha c (List.mem_of_mem_drop (List.mem_of_mem_take hc))
theorem ts1 : tsR1 (enR kr ko tx told pos (some (.p (.str [sg])))) S = .ok (told.isNone && decide (sg ∈ plainS)) S := by
  refine ev_tand (ev_tval (ev_isN (ev_var rfl) isN_td)) (andK_s fun _ => ?_)
  exact ev_tval (ev_bin (ev_var rfl) ev_c rfl rfl in_plain)
theorem ts2 (hl : tx.length ≤ 300) (ha : ∀ c ∈ tx, c < 128) : tsR2 (enR kr ko tx told pos (some (.p (.str [sg])))) S = .ok (told.isNone && (decide (sg ∈ deedS) && decide ((tx.drop (pos + 1)).take 1 = [40]))) S := by
  refine ev_tand (ev_tval (ev_isN (ev_var rfl) isN_td)) (andK_s fun _ => ?_)
  refine ev_tand (ev_tval (ev_bin (ev_var rfl) ev_c rfl rfl in_deed)) (andK_s fun _ => ?_)
  have e : pEq (.str ((tx.drop (pos + 1)).take 1)) (.str [40]) = some (.bl (decide ((tx.drop (pos + 1)).take 1 = [40]))) := by
    rw [op_eqS (asc_sub ha _ _) (by decide)]
    by_cases z : (tx.drop (pos + 1)).take 1 = [40]
    · rw [z]; simp
    · simp [z]
  have e2 : pSl (some ((pos + 1 : Nat) : Int)) (some ((pos + 2 : Nat) : Int)) (.str tx) = some (.str ((tx.drop (pos + 1)).take 1)) := by
    rw [sl_txt hl _ _ (by omega)]
    have : pos + 2 - (pos + 1) = 1 := by omega
    rw [this]
  exact ev_tval (ev_bin (ev_sl (ev_var rfl) (ev_oyes (ev_bin (ev_var rfl) ev_c rfl rfl (add_lit 1))) (ev_oyes (ev_bin (ev_var rfl) ev_c rfl rfl (add_lit 2))) rfl e2) ev_c rfl rfl e)
theorem ts3 (hs : sg < 128) : tsR3 (enR kr ko tx told pos (some (.p (.str [sg])))) S = .ok (told.isNone && decide (sg = 40)) S := by
  refine ev_tand (ev_tval (ev_isN (ev_var rfl) isN_td)) (andK_s fun _ => ?_)
  exact ev_tval (ev_bin (ev_var rfl) ev_c rfl rfl (eq_one hs 40 (by decide)))
theorem dat_nums (l : List Nat) (m : Nat) : datL (nums l) m = true := datL_of fun x _ => rfl
theorem dat_row {f : Row} (h : f.1 < 128) (m : Nat) : (rwP f).dat (m + 1) = true := by
  show ((P.str [f.1]).dat m && datL (nums f.2) m) = true
  rw [dat_nums, Bool.and_true]
  exact asc_one h
theorem ts4 {op : List Row} (ho : S[ko]? = some (.lst (op.reverse.map rwP))) (hop : ∀ f ∈ op, f.1 < 128) : tsR4 (enR kr ko tx told pos (some (.p (.str [sg])))) S = .ok (told.isNone || op.isEmpty) S := by
  refine ev_tor (ev_tval (ev_isN (ev_var rfl) isN_td)) (orK_s fun _ => ?_)
  have e : pEq (.lst (op.reverse.map rwP)) (.lst []) = some (.bl op.isEmpty) := by
    rw [op_eqL0 (fun x hx => dat_row (hop x (List.mem_reverse.mp hx)) 58)]
    simp
  exact ev_tval (ev_bin (ev_var rfl) (ev_lst ev_anil frzs_z (by simp)) (rd_lst ho) rfl e)
theorem last_at {op : List Row} {f : Row} (ho : S[ko]? = some (.lst ((f :: op).reverse.map rwP))) : S[ko]? = some (.lst (op.reverse.map rwP ++ [rwP f])) := by
  rw [ho]
  simp
theorem item_last {op : List Row} {f : Row} {a5 : Option Vl} (ho : S[ko]? = some (.lst ((f :: op).reverse.map rwP))) : eItem (eVar 3) (eUn pNeg (eC (.int 1))) (enR kr ko tx told pos a5) S = .ok (.p (rwP f)) S := by
  have h := last_at ho
  exact ev_item (ev_var rfl) (ev_un ev_c rfl op_neg1) (ixv_l h at_last)
theorem ts5 {op : List Row} {f : Row} (ho : S[ko]? = some (.lst ((f :: op).reverse.map rwP))) (hf : f.1 < 128) (hs : sg < 128) : tsR5 (enR kr ko tx told pos (some (.p (.str [sg])))) S = .ok (decide (sg = 41) && !decide (f.1 = 40)) S := by
  refine ev_tand (ev_tval (ev_bin (ev_var rfl) ev_c rfl rfl (eq_one hs 41 (by decide)))) (andK_s fun _ => ?_)
  refine ev_tval (ev_bin (ev_item (item_last ho) ev_c (ixv_p ix_t0)) ev_c rfl rfl (ne_one hf 40 (by decide)))
theorem eq_open {f : Row} (hf : f.1 < 128) : pEq (rwP f) (.tup [.str [40]]) = some (.bl (decide (f = (40, [])))) := by
  rw [op_eqD (dat_row hf 59) (by decide)]
  obtain ⟨s, l⟩ := f
  congr 2
  show ((s :: [] == [40]) && eqvL (nums l) []) = _
  rw [eqvL_nil]
  cases l with
  | nil =>
    by_cases z : s = 40
    · subst z; simp [nums]
    · simp [nums, z]
  | cons a l => simp [nums]
theorem ts6 {op : List Row} {f : Row} (ho : S[ko]? = some (.lst ((f :: op).reverse.map rwP))) (hf : f.1 < 128) (hl : tx.length ≤ 300) (ha : ∀ c ∈ tx, c < 128) :
    tsR6 (enR kr ko tx told pos (some (.p (.str [sg])))) S = .ok (decide (f = (40, [])) && decide ((tx.drop pos).take 3 = [32, 38, 32] ∨ (tx.drop pos).take 3 = [32, 124, 32])) S := by
  refine ev_tand (ev_tval (ev_bin (item_last ho) (ev_tup (ev_acons ev_c ev_anil) (frzs_s fr_p frzs_z) (by simp)) rfl rfl (eq_open hf))) (andK_s fun _ => ?_)
  have e2 : pSl (some ((pos : Nat) : Int)) (some ((pos + 3 : Nat) : Int)) (.str tx) = some (.str ((tx.drop pos).take 3)) := by
    rw [sl_txt hl _ _ (by omega)]
    have : pos + 3 - pos = 3 := by omega
    rw [this]
  have e : pIn2 (.str ((tx.drop pos).take 3)) (.tup [.str [32, 38, 32], .str [32, 124, 32]]) = some (.bl (decide ((tx.drop pos).take 3 = [32, 38, 32] ∨ (tx.drop pos).take 3 = [32, 124, 32]))) := by
    have := op_inST' (x := (tx.drop pos).take 3) (l := [[32, 38, 32], [32, 124, 32]])
    refine this.trans ?_
    simp
  exact ev_tval (ev_bin (ev_sl (ev_var rfl) (ev_oyes (ev_var rfl)) (ev_oyes (ev_bin (ev_var rfl) ev_c rfl rfl (add_lit 3))) rfl e2) (ev_tup (ev_acons ev_c (ev_acons ev_c ev_anil)) (frzs_s fr_p (frzs_s fr_p frzs_z)) (by simp)) rfl rfl e)
end
end Law

namespace Law
open PySem L2 Mir Pl
section
variable {S0 S : Sto} {kr kl kf : Nat} {q : PSt} {tx : List Nat}
theorem isO_rows {k : Nat} {xs : List Vl} (h : S[k]? = some (.ins "Rows" ["listed", "found"] xs)) : isO "Rows" "number_of" S (nv S (.c k)) = true := by
  rw [nv_ins h]
  unfold isO
  dsimp only
  rw [h]
  exact (by decide : (decide (("Rows" : Str) = "Rows") && decide (("number_of" : Str) ∉ (["listed", "found"] : List Str))) = true)
theorem getD_asc (ha : ∀ c ∈ tx, c < 128) (i : Nat) : tx.getD i 0 < 128 := by
  rw [List.getD_eq_getElem?_getD]
  cases h : tx[i]? with
  | none => decide
  | some c => exact ha c (List.mem_of_getElem? h)
theorem asg_sign {told : Option Nat} {pos ko : Nat} {a5 : Option Vl} (hp : pos < tx.length) (hl : tx.length ≤ 300) : sAsg (eItem (eVar 1) (eVar 4)) (gNm 5) (enR kr ko tx told pos a5) S = .ok (.nx (enR kr ko tx told pos (some (.p (.str [tx.getD pos 0]))))) S := by
  refine ev_asg (ev_item (ev_var rfl) (ev_var rfl) (ixv_p (x := .str tx) ?_)) (ev_gnm rfl)
  show (if tx.length ≤ 100000 then (atI tx (pos : Int)).map (fun c => P.str [c]) else none) = _
  rw [if_pos (by omega), atN (x := tx.getD pos 0) (by simp [hp])]
  rfl
theorem add_pos {told : Option Nat} {pos ko : Nat} {a5 : Option Vl} (k : Nat) : eBin pAdd (eVar 4) (eC (.int ((k : Nat) : Int))) (enR kr ko tx told pos a5) S = .ok (.p (.int ((pos + k : Nat) : Int))) S := ev_bin (ev_var rfl) ev_c rfl rfl (add_lit k)
theorem tell_ok (h : PI S0 kr kl kf S0.length q S) (hkl : kl < S0.length) (hkf : kf < S0.length) (hpos : q.pos < 300) {r : Row} {S1 : Sto} {a : MA} {ρ : En} {ds : List Vl} (hρ : ρ[0]? = some (some (.c kr)))
    (ha : a ρ S = .ok ds S1) (hds : frzs ds S1 = .ok (rwPs r) S1) (hr2 : (rwPs r).length ≤ 100000) {op : List Row} (h1 : PI S0 kr kl kf S0.length ⟨q.told, op, q.pos, q.L⟩ S1) :
    ∃ S', eMeth "Rows" "number_of" m_Rows_number_of (eVar 0) (aCons (eTupT a) aNil) ρ S = .ok (.p (.int ((q.L.idxOf r : Nat) : Int))) S' ∧ PI S0 kr kl kf S0.length ⟨some (q.L.idxOf r), op, q.pos + 1, numL q.L r⟩ S' := by
  have hL := h.smL
  obtain ⟨S', e, rs, hlen, fr⟩ := rnumber_ok (S := S1 ++ [.tup (rwPs r)]) (h1.rs.app _) (i := S1.length) (r := r) (by simp) (by show q.L.length < 1000; omega)
  have hko : S0.length < S1.length := lt_of_at h1.op
  refine ⟨S', ?_, rs, ?_, fun j hj n1 n2 => ?_, h1.asc, ?_, ?_⟩
  · exact ev_meth (ev_var hρ) (isO_rows h.rs.ins) (ev_acons (ev_tupT ha hds hr2) ev_anil) e
  · rw [fr _ (by omega) (by omega), List.getElem?_append_left hko]
    exact h1.op
  · rw [fr j n1 n2, List.getElem?_append_left (by omega)]
    exact h1.fr j hj n1 n2
  · have := numL_len q.L r
    show (numL q.L r).length ≤ q.pos + 1 + 600
    omega
  · have := h1.smO
    show op.length ≤ q.pos + 1
    exact Nat.le_succ_of_le this
theorem push_ok (h : PI S0 kr kl kf S0.length q S) (hkl : kl < S0.length) (hkf : kf < S0.length) {f : Row} (hf : f.1 < 128 ∧ f.2.length ≤ 1) {pos : Nat} (hp : q.pos < pos) : PI S0 kr kl kf S0.length ⟨none, f :: q.op, pos, q.L⟩ (S.set S0.length (.lst (q.op.reverse.map rwP ++ [rwP f]))) := by
  have hko : S0.length < S.length := lt_of_at h.op
  have hkr : kr ≠ S0.length := ne_of_at h.rs.ins h.op (by simp)
  refine ⟨h.rs.set (Ne.symm hkr) (by omega) (by omega), ?_, fun j hj n1 n2 => ?_, fun g hg => ?_, ?_, ?_⟩
  · rw [List.getElem?_set_self hko]
    simp
  · rw [List.getElem?_set_ne (by omega)]
    exact h.fr j hj n1 n2
  · rcases List.mem_cons.mp hg with z | z
    · rw [z]; exact hf
    · exact h.asc g z
  · have := h.smL
    show q.L.length ≤ pos + 600
    omega
  · have := h.smO
    show (f :: q.op).length ≤ pos
    rw [List.length_cons]
    omega
theorem turn_ok (h : PI S0 kr kl kf S0.length q S) (hkl : kl < S0.length) (hkf : kf < S0.length) (hp : q.pos < tx.length) (hl : tx.length ≤ 300) (ha : ∀ c ∈ tx, c < 128) (a5 : Option Vl) :
    (∀ q', stepT tx q = some q' → ∃ a5' S', bdR (enR kr S0.length tx q.told q.pos a5) S = .ok (.nx (enR kr S0.length tx q'.told q'.pos a5')) S' ∧ PI S0 kr kl kf S0.length q' S') ∧
    (stepT tx q = none → bdR (enR kr S0.length tx q.told q.pos a5) S = .ok (.rt (.p .non)) S) := by
  have hsg := getD_asc ha q.pos
  obtain ⟨told, op, pos, L⟩ := q
  dsimp only at hp hsg ⊢
  have ho := h.op
  have hoa := h.asc
  have hsm := h.smO
  dsimp only at ho hoa hsm
  have s0 := asg_sign (S := S) (kr := kr) (ko := S0.length) (told := told) (a5 := a5) hp hl
  have t1 := ts1 (S := S) (kr := kr) (ko := S0.length) (tx := tx) (told := told) (pos := pos) (sg := tx.getD pos 0)
  have t2 := ts2 (S := S) (kr := kr) (ko := S0.length) (tx := tx) (told := told) (pos := pos) (sg := tx.getD pos 0) hl ha
  have t3 := ts3 (S := S) (kr := kr) (ko := S0.length) (tx := tx) (told := told) (pos := pos) (sg := tx.getD pos 0) hsg
  have t4 := ts4 (S := S) (kr := kr) (ko := S0.length) (tx := tx) (told := told) (pos := pos) (sg := tx.getD pos 0) ho (fun f hf => (hoa f hf).1)
  generalize hsgE : tx.getD pos 0 = sg at *
  cases told with
  | none =>
    by_cases c1 : sg ∈ plainS
    · have e : stepT tx ⟨none, op, pos, L⟩ = some ⟨some (L.idxOf (sg, [])), op, pos + 1, numL L (sg, [])⟩ := by
        unfold stepT
        dsimp only
        rw [hsgE, if_pos c1]
      refine ⟨fun q' hq => ?_, fun z => by rw [e] at z; cases z⟩
      rw [e] at hq
      cases hq
      rw [show ((none : Option Nat).isNone && decide (sg ∈ plainS)) = true by simp [c1]] at t1
      obtain ⟨S', e1, p1⟩ := tell_ok h hkl hkf (by show pos < 300; omega) (r := (sg, [])) (a := aCons (eVar 5) aNil) (ρ := enR kr S0.length tx none pos (some (.p (.str [sg])))) (ds := [.p (.str [sg])]) rfl (ev_acons (ev_var rfl) ev_anil) (frzs_s fr_p frzs_z) (show 1 ≤ 100000 by decide) h
      have b1 : bdR1 (enR kr S0.length tx none pos (some (.p (.str [sg])))) S = .ok (.nx (enR kr S0.length tx (some (L.idxOf (sg, []))) (pos + 1) (some (.p (.str [sg]))))) S' := by
        refine ev_par (ev_acons e1 (ev_acons (add_pos 1) ev_anil)) ?_
        · rfl
      exact ⟨_, S', ev_seq s0 (thn_n (ev_sif t1 (ifK_t b1))), p1⟩
    · rw [show ((none : Option Nat).isNone && decide (sg ∈ plainS)) = false by simp [c1]] at t1
      by_cases c2 : sg ∈ deedS ∧ (tx.drop (pos + 1)).take 1 = [40]
      · have e : stepT tx ⟨none, op, pos, L⟩ = some ⟨none, (sg, []) :: op, pos + 2, L⟩ := by
          unfold stepT
          dsimp only
          rw [hsgE, if_neg c1, if_pos c2]
        refine ⟨fun q' hq => ?_, fun z => by rw [e] at z; cases z⟩
        rw [e] at hq
        cases hq
        rw [show ((none : Option Nat).isNone && (decide (sg ∈ deedS) && decide ((tx.drop (pos + 1)).take 1 = [40]))) = true by simp [c2]] at t2
        have ap := app_p (z := rwP (sg, [])) ho (by rw [List.length_map, List.length_reverse]; omega)
        have b2 : bdR2 (enR kr S0.length tx none pos (some (.p (.str [sg])))) S = .ok (.nx (enR kr S0.length tx none (pos + 2) (some (.p (.str [sg]))))) (S.set S0.length (.lst (op.reverse.map rwP ++ [rwP (sg, [])]))) := by
          refine ev_seq (ev_expr (ev_mut (ev_var rfl) (isL_c ho) (ev_acons (ev_tup (ev_acons (ev_var rfl) ev_anil) (frzs_s fr_p frzs_z) (by simp)) ev_anil) ap)) (thn_n (ev_asg (add_pos 2) (ev_gnm ?_)))
          · rfl
        exact ⟨_, _, ev_seq s0 (thn_n (ev_sif t1 (ifK_f (ev_sif t2 (ifK_t b2))))), push_ok h hkl hkf ⟨hsg, Nat.zero_le _⟩ (by show pos < pos + 2; omega)⟩
      · rw [show ((none : Option Nat).isNone && (decide (sg ∈ deedS) && decide ((tx.drop (pos + 1)).take 1 = [40]))) = false by
          rw [← Bool.decide_and]; simp only [Option.isNone_none, Bool.true_and]; exact decide_eq_false c2] at t2
        by_cases c3 : sg = 40
        · have e : stepT tx ⟨none, op, pos, L⟩ = some ⟨none, (40, []) :: op, pos + 1, L⟩ := by
            unfold stepT
            dsimp only
            rw [hsgE, if_neg c1, if_neg c2, if_pos c3]
          refine ⟨fun q' hq => ?_, fun z => by rw [e] at z; cases z⟩
          rw [e] at hq
          cases hq
          rw [show ((none : Option Nat).isNone && decide (sg = 40)) = true by simp [c3]] at t3
          have ap := app_p (z := rwP (40, [])) ho (by rw [List.length_map, List.length_reverse]; omega)
          have b3 : bdR3 (enR kr S0.length tx none pos (some (.p (.str [sg])))) S = .ok (.nx (enR kr S0.length tx none (pos + 1) (some (.p (.str [sg]))))) (S.set S0.length (.lst (op.reverse.map rwP ++ [rwP (40, [])]))) := by
            refine ev_seq (ev_expr (ev_mut (ev_var rfl) (isL_c ho) (ev_acons (ev_tup (ev_acons ev_c ev_anil) (frzs_s fr_p frzs_z) (by simp)) ev_anil) ap)) (thn_n (ev_asg (add_pos 1) (ev_gnm ?_)))
            · rfl
          exact ⟨_, _, ev_seq s0 (thn_n (ev_sif t1 (ifK_f (ev_sif t2 (ifK_f (ev_sif t3 (ifK_t b3))))))), push_ok h hkl hkf ⟨by decide, by decide⟩ (by show pos < pos + 1; omega)⟩
        · rw [show ((none : Option Nat).isNone && decide (sg = 40)) = false by simp [c3]] at t3
          have e : stepT tx ⟨none, op, pos, L⟩ = none := by
            unfold stepT
            dsimp only
            rw [hsgE, if_neg c1, if_neg c2, if_neg c3]
          refine ⟨fun q' hq => (by rw [e] at hq; cases hq), fun _ => ?_⟩
          exact ev_seq s0 (thn_n (ev_sif t1 (ifK_f (ev_sif t2 (ifK_f (ev_sif t3 (ifK_f (ev_sif t4 (ifK_t (ev_ret ev_c)))))))))) 
  | some r =>
    have t1 : tsR1 _ S = .ok false S := t1
    have t2 : tsR2 _ S = .ok false S := t2
    have t3 : tsR3 _ S = .ok false S := t3
    cases op with
    | nil =>
      have e : stepT tx ⟨some r, [], pos, L⟩ = none := rfl
      refine ⟨fun q' hq => (by rw [e] at hq; cases hq), fun _ => ?_⟩
      exact ev_seq s0 (thn_n (ev_sif t1 (ifK_f (ev_sif t2 (ifK_f (ev_sif t3 (ifK_f (ev_sif t4 (ifK_t (ev_ret ev_c))))))))))
    | cons f op =>
      obtain ⟨hf, hf2⟩ := hoa f List.mem_cons_self
      have t4 : tsR4 _ S = .ok false S := t4
      have t5 := ts5 (kr := kr) (tx := tx) (told := some r) (pos := pos) (sg := sg) ho hf hsg
      have t6 := ts6 (kr := kr) (tx := tx) (told := some r) (pos := pos) (sg := sg) ho hf hl ha
      have hla := last_at ho
      have hko : S0.length < S.length := lt_of_at h.op
      have hkr : kr ≠ S0.length := ne_of_at h.rs.ins h.op (by simp)
      by_cases c5 : sg = 41 ∧ f.1 ≠ 40
      · have e : stepT tx ⟨some r, f :: op, pos, L⟩ = some ⟨some (L.idxOf (f.1, f.2 ++ [r])), op, pos + 1, numL L (f.1, f.2 ++ [r])⟩ := by
          unfold stepT
          dsimp only
          rw [hsgE, if_pos c5]
        refine ⟨fun q' hq => ?_, fun z => by rw [e] at z; cases z⟩
        rw [e] at hq
        cases hq
        rw [show (decide (sg = 41) && !decide (f.1 = 40)) = true by simp [c5]] at t5
        have pi1 : PI S0 kr kl kf S0.length ⟨some r, op, pos, L⟩ (S.set S0.length (.lst (op.reverse.map rwP))) := by
          refine ⟨h.rs.set (Ne.symm hkr) (by omega) (by omega), ?_, fun j hj n1 n2 => ?_, fun g hg => hoa g (List.mem_cons_of_mem _ hg), h.smL, ?_⟩
          · rw [List.getElem?_set_self hko]
          · rw [List.getElem?_set_ne (by omega)]
            exact h.fr j hj n1 n2
          · have : (f :: op).length ≤ pos := hsm
            rw [List.length_cons] at this
            show op.length ≤ pos
            omega
        have hlen : (rwPs (f.1, f.2 ++ [r])).length ≤ 100000 := by
          show (P.str [f.1] :: nums (f.2 ++ [r])).length ≤ 100000
          unfold nums
          rw [List.length_cons, List.length_map, List.length_append]
          show f.2.length + 1 + 1 ≤ 100000
          omega
        have fz : frzs ((rwPs f).map Vl.p ++ [.p (.int (r : Int))]) (S.set S0.length (.lst (op.reverse.map rwP))) = .ok (rwPs (f.1, f.2 ++ [r])) (S.set S0.length (.lst (op.reverse.map rwP))) := by
          have := frzs_p (rwPs f ++ [.int (r : Int)]) (S.set S0.length (.lst (op.reverse.map rwP)))
          rw [List.map_append] at this
          refine this.trans ?_
          congr 1
          show P.str [f.1] :: nums f.2 ++ [P.int (r : Int)] = P.str [f.1] :: nums (f.2 ++ [r])
          rw [ints_append]
          rfl
        obtain ⟨S', e1, p1⟩ := tell_ok h hkl hkf (by show pos < 300; omega) (r := (f.1, f.2 ++ [r])) (a := aStar (eMut isL fPop (eVar 3) aNil) (aCons (eVar 2) aNil)) (ρ := enR kr S0.length tx (some r) pos (some (.p (.str [sg])))) rfl (ev_astar (ev_mut (ev_var rfl) (isL_c hla) ev_anil (pop_l hla)) rfl (ev_acons (ev_var rfl) ev_anil)) fz hlen pi1
        · have b5 : bdR5 (enR kr S0.length tx (some r) pos (some (.p (.str [sg])))) S = .ok (.nx (enR kr S0.length tx (some (L.idxOf (f.1, f.2 ++ [r]))) (pos + 1) (some (.p (.str [sg]))))) S' := by
            refine ev_par (ev_acons e1 (ev_acons (add_pos 1) ev_anil)) ?_
            · rfl
          exact ⟨_, S', ev_seq s0 (thn_n (ev_sif t1 (ifK_f (ev_sif t2 (ifK_f (ev_sif t3 (ifK_f (ev_sif t4 (ifK_f (ev_sif t5 (ifK_t b5))))))))))), p1⟩
      · rw [show (decide (sg = 41) && !decide (f.1 = 40)) = false by
          rw [← decide_not, ← Bool.decide_and]; exact decide_eq_false c5] at t5
        by_cases c6 : f = (40, []) ∧ ((tx.drop pos).take 3 = [32, 38, 32] ∨ (tx.drop pos).take 3 = [32, 124, 32])
        · have e : stepT tx ⟨some r, f :: op, pos, L⟩ = some ⟨none, (tx.getD (pos + 1) 0, [r]) :: op, pos + 3, L⟩ := by
            unfold stepT
            dsimp only
            rw [hsgE, if_neg c5, if_pos c6]
          refine ⟨fun q' hq => ?_, fun z => by rw [e] at z; cases z⟩
          rw [e] at hq
          cases hq
          rw [← Bool.decide_and, decide_eq_true c6] at t6
          have hp1 : pos + 1 < tx.length := by
            have : ((tx.drop pos).take 3).length = 3 := by rcases c6.2 with z | z <;> rw [z] <;> rfl
            rw [List.length_take, List.length_drop] at this
            omega
          have ix : eItem (eVar 1) (eBin pAdd (eVar 4) (eC (.int 1))) (enR kr S0.length tx (some r) pos (some (.p (.str [sg])))) S = .ok (.p (.str [tx.getD (pos + 1) 0])) S := by
            refine ev_item (ev_var rfl) (ev_bin (ev_var rfl) ev_c rfl rfl (add_lit 1)) (ixv_p (x := .str tx) ?_)
            show (if tx.length ≤ 100000 then (atI tx ((pos + 1 : Nat) : Int)).map (fun c => P.str [c]) else none) = _
            rw [if_pos (by omega), atN (x := tx.getD (pos + 1) 0) (by simp [hp1])]
            rfl
          have st := setV_last (w := rwP (tx.getD (pos + 1) 0, [r])) hla
          have pi1 : PI S0 kr kl kf S0.length ⟨none, (tx.getD (pos + 1) 0, [r]) :: op, pos + 3, L⟩ (S.set S0.length (.lst (op.reverse.map rwP ++ [rwP (tx.getD (pos + 1) 0, [r])]))) := by
            refine ⟨h.rs.set (Ne.symm hkr) (by omega) (by omega), ?_, fun j hj n1 n2 => ?_, fun g hg => ?_, ?_, ?_⟩
            · rw [List.getElem?_set_self hko]
              simp
            · rw [List.getElem?_set_ne (by omega)]
              exact h.fr j hj n1 n2
            · rcases List.mem_cons.mp hg with z | z
              · rw [z]; exact ⟨getD_asc ha _, Nat.le_refl _⟩
              · exact hoa g (List.mem_cons_of_mem _ z)
            · have : L.length ≤ pos + 600 := h.smL
              show L.length ≤ pos + 3 + 600
              omega
            · have : (f :: op).length ≤ pos := hsm
              rw [List.length_cons] at this
              show (_ :: op).length ≤ pos + 3
              rw [List.length_cons]
              omega
          have b6 : bdR6 (enR kr S0.length tx (some r) pos (some (.p (.str [sg])))) S = .ok (.nx (enR kr S0.length tx none (pos + 3) (some (.p (.str [sg]))))) (S.set S0.length (.lst (op.reverse.map rwP ++ [rwP (tx.getD (pos + 1) 0, [r])]))) := by
            have w1 : eTup (aCons (eItem (eVar 1) (eBin pAdd (eVar 4) (eC (.int 1)))) (aCons (eVar 2) aNil)) (enR kr S0.length tx (some r) pos (some (.p (.str [sg])))) S = .ok (.p (rwP (tx.getD (pos + 1) 0, [r]))) S := ev_tup (ev_acons ix (ev_acons (ev_var rfl) ev_anil)) (frzs_s fr_p (frzs_s fr_p frzs_z)) (show 2 ≤ 100000 by decide)
            refine ev_seq (ev_asg w1 (ev_gsub (ρ' := []) (ev_var rfl) (ev_un ev_c rfl op_neg1) st)) (thn_n (ev_par (ev_acons ev_c (ev_acons (add_pos 3) ev_anil)) ?_))
            · rfl
          exact ⟨_, _, ev_seq s0 (thn_n (ev_sif t1 (ifK_f (ev_sif t2 (ifK_f (ev_sif t3 (ifK_f (ev_sif t4 (ifK_f (ev_sif t5 (ifK_f (ev_sif t6 (ifK_t b6))))))))))))), pi1⟩
        · rw [← Bool.decide_and, decide_eq_false c6] at t6
          have e : stepT tx ⟨some r, f :: op, pos, L⟩ = none := by
            unfold stepT
            dsimp only
            rw [hsgE, if_neg c5, if_neg c6]
          refine ⟨fun q' hq => (by rw [e] at hq; cases hq), fun _ => ?_⟩
          exact ev_seq s0 (thn_n (ev_sif t1 (ifK_f (ev_sif t2 (ifK_f (ev_sif t3 (ifK_f (ev_sif t4 (ifK_f (ev_sif t5 (ifK_f (ev_sif t6 (ifK_f (ev_ret ev_c))))))))))))))
end
end Law

namespace Law
open PySem L2 Mir Pl
section
variable {S0 S : Sto} {kr kl kf : Nat} {q : PSt} {tx : List Nat}
theorem step_pos {q' : PSt} (h : stepT tx q = some q') : q.pos < q'.pos := by
  unfold stepT at h
  dsimp only at h
  split at h
  · split at h
    · cases h; exact Nat.lt_succ_self _
    · split at h
      · cases h; show q.pos < q.pos + 2; omega
      · split at h
        · cases h; exact Nat.lt_succ_self _
        · cases h
  · split at h
    · cases h
    · split at h
      · cases h; exact Nat.lt_succ_self _
      · split at h
        · cases h; show q.pos < q.pos + 3; omega
        · cases h
abbrev tsW : MT := tVal (eBin bLt (eVar 4) (eCall pLen (aCons (eVar 1) aNil)))
theorem tsW_ok {told : Option Nat} {pos ko : Nat} {a5 : Option Vl} (hl : tx.length ≤ 300) : tsW (enR kr ko tx told pos a5) S = .ok (decide (pos < tx.length)) S :=
  ev_tval (ev_bin (ev_var rfl) (ev_call (ev_acons (ev_var rfl) ev_anil) (rds_c rfl (rds_nil _)) (op_lenS (by omega))) rfl rfl op_ltN)
theorem loop_ok (hkl : kl < S0.length) (hkf : kf < S0.length) (hl : tx.length ≤ 300) (ha : ∀ c ∈ tx, c < 128) : ∀ (n : Nat) (q : PSt) (S : Sto) (a5 : Option Vl), tx.length < n + q.pos → 0 < n → PI S0 kr kl kf S0.length q S →
    (∃ q' a5' S', runT tx n q = some q' ∧ whGo tsW bdR n (enR kr S0.length tx q.told q.pos a5) S = .ok (.nx (enR kr S0.length tx q'.told q'.pos a5')) S' ∧ PI S0 kr kl kf S0.length q' S') ∨
    (runT tx n q = none ∧ ∃ q' S', whGo tsW bdR n (enR kr S0.length tx q.told q.pos a5) S = .ok (.rt (.p .non)) S' ∧ PI S0 kr kl kf S0.length q' S')
  | 0, q, S, a5, _, h0, _ => absurd h0 (by decide)
  | n + 1, q, S, a5, hn, _, h => by
    have t := tsW_ok (S := S) (kr := kr) (ko := S0.length) (told := q.told) (pos := q.pos) (a5 := a5) hl
    by_cases hp : q.pos < tx.length
    · rw [decide_eq_true hp] at t
      obtain ⟨k1, k2⟩ := turn_ok h hkl hkf hp hl ha a5
      cases e : stepT tx q with
      | none =>
        refine .inr ⟨?_, q, S, wh_ret t (k2 e), h⟩
        show (if q.pos < tx.length then (match stepT tx q with
          | some q' => runT tx n q'
          | none => none) else some q) = _
        rw [if_pos hp, e]
      | some q' =>
        obtain ⟨a5', S', e1, h1⟩ := k1 q' e
        have hq := step_pos e
        have er : runT tx (n + 1) q = runT tx n q' := run_step hp e
        rw [er, wh_step t e1]
        exact loop_ok hkl hkf hl ha n q' S' a5' (by omega) (by omega) h1
    · rw [decide_eq_false hp] at t
      refine .inl ⟨q, a5, S, ?_, wh_end t, h⟩
      show (if q.pos < tx.length then _ else some q) = _
      rw [if_neg hp]
theorem take_at {n j : Nat} (h : j < n) : (S.take n)[j]? = S[j]? := by
  rw [List.getElem?_take_of_lt h]
theorem read_into_ok {L : List Row} (h : RwS S0 kr kl kf L) (hL : L.length ≤ 600) (hl : tx.length ≤ 300) (ha : ∀ c ∈ tx, c < 128) :
    (∀ r M, readT tx L = some (r, M) → ∃ S', m_read_into [.c kr, .p (.str tx)] S0 = .ok (.p (.int (r : Int))) S' ∧ RwS S' kr kl kf M ∧ S'.length = S0.length ∧ ∀ j, j ≠ kl → j ≠ kf → S'[j]? = S0[j]?) ∧
    (readT tx L = none → ∃ S', m_read_into [.c kr, .p (.str tx)] S0 = .ok (.p .non) S' ∧ S'.length = S0.length ∧ ∀ j, j ≠ kl → j ≠ kf → S'[j]? = S0[j]?) := by
  have hkr := lt_of_at h.ins
  have hkl := lt_of_at h.lst
  have hkf := lt_of_at h.dct
  have p0 : PI S0 kr kl kf S0.length ⟨none, [], 0, L⟩ (S0 ++ [.lst []]) := by
    refine ⟨h.app _, by simp, fun j hj _ _ => List.getElem?_append_left hj, fun f hf => (by cases hf), (by show L.length ≤ 0 + 600; omega), Nat.le_refl _⟩
  have ln : ∀ {q' : PSt} {S' : Sto}, PI S0 kr kl kf S0.length q' S' → (S'.take S0.length).length = S0.length ∧ RwS (S'.take S0.length) kr kl kf q'.L ∧ ∀ j, j ≠ kl → j ≠ kf → (S'.take S0.length)[j]? = S0[j]? := by
    intro q' S' p
    have hS := lt_of_at p.op
    refine ⟨by rw [List.length_take]; omega, ⟨by rw [take_at hkr]; exact p.rs.ins, by rw [take_at hkl]; exact p.rs.lst, by rw [take_at hkf]; exact p.rs.dct⟩, fun j n1 n2 => ?_⟩
    by_cases hj : j < S0.length
    · rw [take_at hj]; exact p.fr j hj n1 n2
    · rw [List.getElem?_eq_none (by rw [List.length_take]; omega), List.getElem?_eq_none (by omega)]
  have s1 : sPar3 2 3 4 (aCons (eC .non) (aCons (eLstC aNil) (aCons (eC (.int 0)) aNil))) [some (.c kr), some (.p (.str tx)), none, none, none, none] S0 = .ok (.nx (enR kr S0.length tx none 0 none)) (S0 ++ [.lst []]) :=
    ev_par3 (ev_acons ev_c (ev_acons (ev_lstC ev_anil frzs_z (by simp)) (ev_acons ev_c ev_anil))) rfl
  have lp := loop_ok (S0 := S0) (kr := kr) hkl hkf hl ha 1000 ⟨none, [], 0, L⟩ (S0 ++ [.lst []]) none (by show tx.length < 1000 + 0; omega) (by decide) p0
  rcases lp with ⟨q', a5', S', e1, e2, p⟩ | ⟨e1, q', S', e2, p⟩
  · obtain ⟨g1, g2, g3⟩ := ln p
    have t1 : tVal (eBin pEq (eVar 3) (eLst aNil)) (enR kr S0.length tx q'.told q'.pos a5') S' = .ok q'.op.isEmpty S' := by
      have e : pEq (.lst (q'.op.reverse.map rwP)) (.lst []) = some (.bl q'.op.isEmpty) := by
        rw [op_eqL0 (fun x hx => dat_row (p.asc x (List.mem_reverse.mp hx)).1 58)]
        simp
      exact ev_tval (ev_bin (ev_var rfl) (ev_lst ev_anil frzs_z (by simp)) (rd_lst p.op) rfl e)
    have run : ∀ x : P, eIfM (tVal (eBin pEq (eVar 3) (eLst aNil))) (eVar 2) (eC .non) (enR kr S0.length tx q'.told q'.pos a5') S' = .ok (.p x) S' → m_read_into [.c kr, .p (.str tx)] S0 = .ok (.p x) (S'.take S0.length) := by
      intro x hx
      unfold m_read_into b_read_into
      refine ws_mkFe (ρ := [some (.c kr), some (.p (.str tx)), none, none, none, none]) rfl rfl ?_
      refine ws_seq s1 (ws_seq e2 (ws_of (ev_ret hx) ?_))
      rw [endF_p]
    obtain ⟨told, op, pos, M⟩ := q'
    cases op with
    | cons f op =>
      have r0 : readT tx L = none := by
        unfold readT
        rw [e1]
        cases told <;> rfl
      refine ⟨fun r M' z => (by rw [r0] at z; cases z), fun _ => ⟨_, run .non (ev_if t1 (ifK_f ev_c)), g1, g3⟩⟩
    | nil =>
      cases told with
      | none =>
        have r0 : readT tx L = none := by
          unfold readT
          rw [e1]
          rfl
        exact ⟨fun r M' z => (by rw [r0] at z; cases z), fun _ => ⟨_, run .non (ev_if t1 (ifK_t (ev_var rfl))), g1, g3⟩⟩
      | some r =>
        have r0 : readT tx L = some (r, M) := by
          unfold readT
          rw [e1]
          rfl
        refine ⟨fun r' M' z => ?_, fun z => (by rw [r0] at z; cases z)⟩
        rw [r0] at z
        cases z
        exact ⟨_, run _ (ev_if t1 (ifK_t (ev_var rfl))), g2, g1, g3⟩
  · obtain ⟨g1, g2, g3⟩ := ln p
    have r0 : readT tx L = none := by
      unfold readT
      rw [e1]
      rfl
    refine ⟨fun r M z => (by rw [r0] at z; cases z), fun _ => ⟨S'.take S0.length, ?_, g1, g3⟩⟩
    unfold m_read_into b_read_into
    refine ws_mkFe (ρ := [some (.c kr), some (.p (.str tx)), none, none, none, none]) rfl rfl ?_
    refine ws_seq s1 (ws_of (ev_seq e2 thn_r) ?_)
    rw [endF_p]
def newR (n : Nat) : List Cell := [.lst [], .dcT [] [], .ins "Rows" ["listed", "found"] [.c n, .c (n + 1)]]
theorem rows_new (S : Sto) : RwS (S ++ newR S.length) (S.length + 2) S.length (S.length + 1) [] := by
  unfold newR
  exact ⟨cell2, cell0, cell1⟩
end
end Law

namespace Law
open PySem L2 Mir Pl
section
variable {tx : List Nat}
theorem put_at {c f : Str} {S : Sto} {k : Nat} {ns : List Str} {xs : List Vl} {d : Vl} (hk : S[k]? = some (.ins c ns xs)) (h : f ∉ ns) (hl : ns.length = xs.length) (hn : ns.length < 1000) : putC c f k d S = .ok () (S.set k (.ins c (ns ++ [f]) (xs ++ [d]))) := by
  unfold putC
  rw [hk]
  dsimp only
  rw [if_pos ⟨rfl, hn⟩, putN_new h, putX_new h hl]
theorem fset_c {c f : Str} {S : Sto} {k j : Nat} {ns : List Str} {xs : List Vl} (hj : j < k) (hk : S[k]? = some (.ins c ns xs)) (h : f ∉ ns) (hl : ns.length = xs.length) (hn : ns.length < 1000) : fSet c f (.c k) (.c j) S = .ok () (S.set k (.ins c (ns ++ [f]) (xs ++ [.c j]))) := by
  unfold fSet
  dsimp only
  rw [if_pos hj, put_at hk h hl hn]
theorem ev_gfldM {c f : Str} {o : ME} {ρ : En} {S S1 S2 : Sto} {d e : Vl} (ho : o ρ S = .ok e S1) (hf : fSet c f e d S1 = .ok () S2) : gFldM c f o d ρ S = .ok ρ S2 := by
  unfold gFldM
  rw [ho, nox_ok, bind_ok, hf, bind_ok]
theorem ev_lstR {i k : Nat} {o : ME} {ρ : En} {S S1 : Sto} (ho : o ρ S = .ok (.c k) S1) (h : S1[k - i]? = some .res) : eLstR i o ρ S = .ok (.c (k - i)) (S1.set (k - i) (.lst [])) := by
  unfold eLstR
  rw [ho, bind_ok]
  dsimp only
  rw [h]
theorem ev_dctR {i k : Nat} {o : ME} {ρ : En} {S S1 : Sto} (ho : o ρ S = .ok (.c k) S1) (h : S1[k - i]? = some .res) : eDctR i o ρ S = .ok (.c (k - i)) (S1.set (k - i) (.dcT [] [])) := by
  unfold eDctR
  rw [ho, bind_ok]
  dsimp only
  rw [h]
theorem set2 {S : Sto} {a b c d : Cell} : (S ++ [a, b, c]).set S.length d = S ++ [d, b, c] := by
  rw [List.set_append_right _ _ (Nat.le_refl _), Nat.sub_self]
  rfl
theorem set1 {S : Sto} {a b c d : Cell} : (S ++ [a, b, c]).set (S.length + 1) d = S ++ [a, d, c] := by
  rw [List.set_append_right _ _ (by omega)]
  have : S.length + 1 - S.length = 1 := by omega
  rw [this]
  rfl
theorem set0 {S : Sto} {a b c d : Cell} : (S ++ [a, b, c]).set (S.length + 2) d = S ++ [a, b, d] := by
  rw [List.set_append_right _ _ (by omega)]
  have : S.length + 2 - S.length = 2 := by omega
  rw [this]
  rfl
theorem init_rows (S : Sto) : m_Rows___init__ [.c (S.length + 2)] (S ++ [.res, .res, .ins "Rows" [] []]) = .ok (.p .non) (S ++ newR S.length) := by
  unfold m_Rows___init__ b_Rows___init__
  refine ws_mkFe (ρ := [some (.c (S.length + 2))]) rfl rfl ?_
  have e1 : eLstR 2 (eVar 0) [some (.c (S.length + 2))] (S ++ [.res, .res, .ins "Rows" [] []]) = .ok (.c S.length) (S ++ [.lst [], .res, .ins "Rows" [] []]) := by
    have := ev_lstR (i := 2) (k := S.length + 2) (o := eVar 0) (ρ := [some (.c (S.length + 2))]) (S := S ++ [.res, .res, .ins "Rows" [] []]) (ev_var rfl) (by rw [Nat.add_sub_cancel]; exact cell0)
    rw [Nat.add_sub_cancel, set2] at this
    exact this
  have e2 : eDctR 1 (eVar 0) [some (.c (S.length + 2))] (S ++ [.lst [], .res, .ins "Rows" [] []]) = .ok (.c (S.length + 1)) (S ++ [.lst [], .dcT [] [], .ins "Rows" [] []]) := by
    have hz : S.length + 2 - 1 = S.length + 1 := by omega
    have := ev_dctR (i := 1) (k := S.length + 2) (o := eVar 0) (ρ := [some (.c (S.length + 2))]) (S := S ++ [.lst [], .res, .ins "Rows" [] []]) (ev_var rfl) (by rw [hz]; exact cell1)
    rw [hz, set1] at this
    exact this
  have f1 : fSet "Rows" "listed" (.c (S.length + 2)) (.c S.length) (S ++ [.lst [], .dcT [] [], .ins "Rows" [] []]) = .ok () (S ++ [.lst [], .dcT [] [], .ins "Rows" ["listed"] [.c S.length]]) := by
    rw [fset_c (by omega) cell2 (by simp) rfl (by decide), set0]
    rfl
  have f2 : fSet "Rows" "found" (.c (S.length + 2)) (.c (S.length + 1)) (S ++ [.lst [], .dcT [] [], .ins "Rows" ["listed"] [.c S.length]]) = .ok () (S ++ newR S.length) := by
    rw [fset_c (by omega) cell2 (by decide) rfl (by decide), set0]
    rfl
  refine ws_of (ev_parG (ev_acons e1 (ev_acons e2 ev_anil)) rfl (by decide) (ev_gcn (ev_gfldM (ev_var rfl) f1) (ev_gcn (ev_gfldM (ev_var rfl) f2) ev_gnl))) ?_
  rw [endF_nx, List.take_of_length_le]
  simp [newR]
theorem make_rows (ρ : En) (S : Sto) : eMakeR 2 "Rows" m_Rows___init__ ρ S = .ok (.c (S.length + 2)) (S ++ newR S.length) := by
  unfold eMakeR mkO
  have e : S ++ List.replicate 2 Cell.res ++ [.ins "Rows" [] []] = S ++ [.res, .res, .ins "Rows" [] []] := by simp
  have e2 : (S ++ List.replicate 2 Cell.res).length = S.length + 2 := by simp
  rw [e, e2, init_rows]
  rfl
theorem take_new {S S' : Sto} (hl : S'.length = S.length + 3) (h : ∀ j, j ≠ S.length → j ≠ S.length + 1 → S'[j]? = (S ++ newR S.length)[j]?) : S'.take S.length = S := by
  apply List.ext_getElem?
  intro j
  by_cases hj : j < S.length
  · rw [take_at hj, h j (by omega) (by omega), List.getElem?_append_left hj]
  · rw [List.getElem?_eq_none (by rw [List.length_take]; omega), List.getElem?_eq_none (by omega)]
theorem is_text_ok (hl : tx.length ≤ 300) (ha : ∀ c ∈ tx, c < 128) (S : Sto) : m_is_text [.p (.str tx)] S = .ok (.p (.bl (readT tx []).isSome)) S := by
  have hr := read_into_ok (S0 := S ++ newR S.length) (tx := tx) (rows_new S) (by decide) hl ha
  have go : ∀ (d : Vl) (S' : Sto) (b : Bool), m_read_into [.c (S.length + 2), .p (.str tx)] (S ++ newR S.length) = .ok d S' → (!isN d) = b → S'.length = (S ++ newR S.length).length → (∀ j, j ≠ S.length → j ≠ S.length + 1 → S'[j]? = (S ++ newR S.length)[j]?) → m_is_text [.p (.str tx)] S = .ok (.p (.bl b)) S := by
    intro d S' b e hb h1 h2
    unfold m_is_text b_is_text
    refine ws_mkFe (ρ := [some (.p (.str tx))]) rfl rfl ?_
    have l1 : eBin bLe (eCall pLen (aCons (eVar 0) aNil)) (eC (.int 300)) [some (.p (.str tx))] S = .ok (.p (.bl true)) S := by
      have := ev_bin (ρ := [some (.p (.str tx))]) (S := S) (a := eCall pLen (aCons (eVar 0) aNil)) (b := eC (.int 300)) (f := bLe) (ev_call (ev_acons (ev_var rfl) ev_anil) (rds_c rfl (rds_nil _)) (op_lenS (x := tx) (by omega))) ev_c rfl rfl (op_leN (b := 300))
      rw [decide_eq_true hl] at this
      exact this
    refine ws_of (ev_ret (ev_eand (q := true) (ev_isi (ev_var rfl) ev_c rfl rfl) (eandK_t (ev_eand l1 (eandK_t (ev_notN (ev_fn (ev_acons (make_rows _ _) (ev_acons (ev_var rfl) ev_anil)) e) hb)))))) ?_
    rw [endF_p, take_new (by rw [h1]; simp [newR]) h2]
  cases h : readT tx [] with
  | none =>
    obtain ⟨S', e, h1, h2⟩ := hr.2 h
    exact go _ S' false e rfl h1 h2
  | some x =>
    obtain ⟨r, M⟩ := x
    obtain ⟨S', e, _, h1, h2⟩ := hr.1 r M h
    exact go _ S' true e rfl h1 h2
def trmP (tx : List Nat) : P := .obj "Term" ["told"] [.str tx]
theorem make_term (hl : tx.length ≤ 300) (ha : ∀ c ∈ tx, c < 128) (hr : (readT tx []).isSome = true) (S : Sto) : mkO false "Term" m_Term___init__ [.p (.str tx)] S = .ok (.p (trmP tx)) S := by
  have ht := is_text_ok hl ha (S ++ [.ins "Term" [] []])
  rw [hr] at ht
  have body : m_Term___init__ [.c S.length, .p (.str tx)] (S ++ [.ins "Term" [] []]) = .ok (.p .non) (S ++ [.ins "Term" ["told"] [.p (.str tx)]]) := by
    unfold m_Term___init__ b_Term___init__
    refine ws_mkFe (ρ := [some (.c S.length), some (.p (.str tx))]) rfl rfl ?_
    have hk : (S ++ [Cell.ins "Term" [] []])[S.length]? = some (.ins "Term" [] []) := by simp
    refine ws_seq (ev_sif (ev_tnot (ev_tval (ev_fn (ev_acons (ev_var rfl) ev_anil) ht)) rfl) (ifK_f ev_pass)) ?_
    refine ws_of (ev_asg (ev_var rfl) (ev_gfldM (ev_var rfl) (fSet_end (by decide) rfl (by decide)))) ?_
    rw [endF_nx, List.take_of_length_le (by simp)]
    rfl
  unfold mkO
  rw [body]
  unfold endO
  dsimp only
  have hk2 : (S ++ [Cell.ins "Term" ["told"] [.p (.str tx)]])[S.length]? = some (.ins "Term" ["told"] [.p (.str tx)]) := by simp
  have fr : frz (.c S.length) (S ++ [Cell.ins "Term" ["told"] [.p (.str tx)]]) = .ok (trmP tx) ((S ++ [Cell.ins "Term" ["told"] [.p (.str tx)]]).set S.length (.fz (trmP tx))) := by
    unfold frz frzN
    dsimp only
    rw [hk2]
    dsimp only
    show ((Res.ok [P.str tx] _).bind _) = _
    rw [bind_ok, hk2]
    dsimp only
    rw [if_pos ⟨rfl, rfl⟩]
    rfl
  rw [fr, bind_ok]
  simp
end
end Law

namespace Law
open PySem L2 Mir Pl
section
variable (n : Nat) (near lots : List (List Nat))
end
section
variable {n : Nat} {near lots : List (List Nat)}
end
end Law

namespace Law
open PySem L2 Mir Pl
section
variable {n : Nat} {order near lots : List (List Nat)} (h : Spc n order near)
include h
end
end Law

namespace Law
open PySem L2 Mir Pl
section
variable {n : Nat} {order near lots : List (List Nat)} (h : Spc n order near)
include h
end
end Law

namespace Law
open PySem L2 Mir Pl
theorem fldn_term (tx : List Nat) (S : Sto) : fldV "Term" "told" (nv S (.p (trmP tx))) S = .ok (.p (.str tx)) S := by
  rw [nv_p]
  unfold fldV trmP
  dsimp only
  rw [if_pos rfl]
  unfold fldOf
  rw [if_pos rfl]
section
variable {n : Nat} {order near : List (List Nat)}
variable (h : Spc n order near)
include h
end
end Law

namespace Law
open PySem L2 Mir Pl
def Ltr (ls : List Nat) : Prop := ∀ s ∈ ls, s = 120 ∨ s = 121 ∨ s = 122
theorem txt_signs {ls : List Nat} : ∀ {t : Tr}, t.ok ls → ∀ c ∈ t.txt, c ∈ ls ∨ c ∈ [48, 49, 99, 105, 110, 40, 41, 32, 38, 124]
  | .leaf s, h, c, hc => by
    have : c = s := by
      have hc : c ∈ [s] := hc
      simpa using hc
    subst this
    rcases h with z | z | z
    · exact .inl z
    · rw [z]; exact .inr (by decide)
    · rw [z]; exact .inr (by decide)
  | .un s t, h, c, hc => by
    obtain ⟨hs, h⟩ := h
    have hc : c ∈ s :: 40 :: (t.txt ++ [41]) := hc
    rcases List.mem_cons.mp hc with z | hc
    · subst z
      right
      unfold deedS at hs
      simp at hs ⊢
      omega
    · rcases List.mem_cons.mp hc with z | hc
      · rw [z]; exact .inr (by decide)
      · rcases List.mem_append.mp hc with z | z
        · exact txt_signs h c z
        · have : c = 41 := by simpa using z
          rw [this]; exact .inr (by decide)
  | .bin s t u, h, c, hc => by
    obtain ⟨hs, h, h2⟩ := h
    have hc : c ∈ 40 :: (t.txt ++ (32 :: s :: 32 :: (u.txt ++ [41]))) := hc
    rcases List.mem_cons.mp hc with z | hc
    · rw [z]; exact .inr (by decide)
    · rcases List.mem_append.mp hc with z | hc
      · exact txt_signs h c z
      · rcases List.mem_cons.mp hc with z | hc
        · rw [z]; exact .inr (by decide)
        · rcases List.mem_cons.mp hc with z | hc
          · subst z
            right
            simp
            omega
          · rcases List.mem_cons.mp hc with z | hc
            · rw [z]; exact .inr (by decide)
            · rcases List.mem_append.mp hc with z | z
              · exact txt_signs h2 c z
              · have : c = 41 := by simpa using z
                rw [this]; exact .inr (by decide)
theorem txt_asc {ls : List Nat} (hls : Ltr ls) {t : Tr} (h : t.ok ls) : ∀ c ∈ t.txt, c < 128 := fun c hc => by
  rcases txt_signs h c hc with z | z
  · have := hls c z
    omega
  · simp at z
    omega
section
variable {n : Nat} {order near lots : List (List Nat)} (h : Spc n order near)
include h
end
end Law

namespace Law
open PySem L2 Mir Pl
def lsP (ls : List Nat) : P := .lst (ls.map fun c => P.str [c])
theorem eq0_t {d : Nat} (h : d = 0) : pEq (.int (d : Int)) (.int 0) = some (.bl true) := by rw [op_eqN0, h]; rfl
theorem eq0_f {d : Nat} (h : d ≠ 0) : pEq (.int (d : Int)) (.int 0) = some (.bl false) := by
  rw [op_eqN0]
  have : (d == 0) = false := by simpa using h
  rw [this]
theorem deed_at {q : Nat} (h1 : 1 ≤ q) (h2 : q < 6) : ∃ s ∈ deedS, pIx (.lst [.str [99], .str [105], .str [110], .str [99], .str [105]]) (.int ((q : Int) - 1)) = some (.str [s]) := by
  have : q = 1 ∨ q = 2 ∨ q = 3 ∨ q = 4 ∨ q = 5 := by omega
  rcases this with z | z | z | z | z <;> subst z
  · exact ⟨99, by decide, rfl⟩
  · exact ⟨105, by decide, rfl⟩
  · exact ⟨110, by decide, rfl⟩
  · exact ⟨99, by decide, rfl⟩
  · exact ⟨105, by decide, rfl⟩
theorem pair_at {q : Nat} (h1 : 6 ≤ q) (h2 : q < 9) : ∃ s, (s = 38 ∨ s = 124) ∧ pIx (.lst [.str [38], .str [124], .str [38]]) (.int ((q : Int) - 6)) = some (.str [s]) := by
  have : q = 6 ∨ q = 7 ∨ q = 8 := by omega
  rcases this with z | z | z <;> subst z
  · exact ⟨38, .inl rfl, rfl⟩
  · exact ⟨124, .inr rfl, rfl⟩
  · exact ⟨38, .inl rfl, rfl⟩
theorem drawn_term_ok {ls : List Nat} (hne : ls ≠ []) (hlen : ls.length ≤ 3) : ∀ (d f : Nat), d < f → d ≤ 10 → ∀ {S : Sto} {k : Nat}, Urn S k →
    ∃ t S', m__law_drawn_term f [.c k, .p (.int (d : Int)), .p (lsP ls)] S = .ok (.p (Tr.toP t)) S' ∧ t.ok ls ∧ t.dep ≤ d ∧ Ux k S S'
  | d, 0, hd, _, S, k, hu => absurd hd (Nat.not_lt_zero _)
  | d, f + 1, hd, h10, S, k, hu => by
    obtain ⟨r, S1, e1, r0, r1, u1⟩ := ladle_ok (n := 9) hu (by decide) (by decide)
    obtain ⟨q, rfl⟩ := Int.eq_ofNat_of_zero_le r0
    have hq : q < 9 := by omega
    have s1 : sAsg (eFn m__law_ladle (aCons (eVar 0) (aCons (eC (.int 9)) aNil))) (gNm 3) [some (.c k), some (.p (.int (d : Int))), some (.p (lsP ls)), none, none] S = .ok (.nx [some (.c k), some (.p (.int (d : Int))), some (.p (lsP ls)), some (.p (.int (q : Int))), none]) S1 := ev_asg (ev_fn (ev_acons (ev_var rfl) (ev_acons ev_c ev_anil)) e1) (ev_gnm rfl)
    by_cases h0 : d = 0 ∨ q = 0
    · obtain ⟨r2, S2, e2, r20, r21, u2⟩ := ladle_ok (n := 4) u1.urn (by decide) (by decide)
      obtain ⟨q2, rfl⟩ := Int.eq_ofNat_of_zero_le r20
      have t0 : tOrM (tVal (eBin pEq (eVar 1) (eC (.int 0)))) (tVal (eBin pEq (eVar 3) (eC (.int 0)))) [some (.c k), some (.p (.int (d : Int))), some (.p (lsP ls)), some (.p (.int (q : Int))), none] S1 = .ok true S1 := by
        by_cases hd0 : d = 0
        · exact ev_tor (ev_tval (ev_bin (ev_var rfl) ev_c rfl rfl (eq0_t hd0))) orK_t
        · exact ev_tor (ev_tval (ev_bin (ev_var rfl) ev_c rfl rfl (eq0_f hd0))) (orK_f (ev_tval (ev_bin (ev_var rfl) ev_c rfl rfl (eq0_t (by omega)))))
      have go : ∀ (xs : List P), xs ≠ [] → xs.length < 10 → (∀ x ∈ xs, ∃ c, x = P.str [c] ∧ (c ∈ ls ∨ c = 48 ∨ c = 49)) → eIfM (tVal (eBin pEq (eFn m__law_ladle (aCons (eVar 0) (aCons (eC (.int 4)) aNil))) (eC (.int 0)))) (eBin pAdd (eVar 2) (eLst (aCons (eC (.str [48])) (aCons (eC (.str [49])) aNil)))) (eVar 2) [some (.c k), some (.p (.int (d : Int))), some (.p (lsP ls)), some (.p (.int (q : Int))), none] S1 = .ok (.p (.lst xs)) S2 →
          ∃ t S', m__law_drawn_term (f + 1) [.c k, .p (.int (d : Int)), .p (lsP ls)] S = .ok (.p (Tr.toP t)) S' ∧ t.ok ls ∧ t.dep ≤ d ∧ Ux k S S' := by
        intro xs hx hxl hxs e
        obtain ⟨x, S3, e3, hx3, u3⟩ := pick_ok (xs := xs) u2.urn hx (by omega)
        obtain ⟨c, rfl, hc⟩ := hxs x hx3
        have u13 := (u1.trans u2).trans u3
        refine ⟨.leaf c, S3, ?_, hc, Nat.zero_le _, u13⟩
        show mkF 3 2 (b__law_drawn_term (m__law_drawn_term f)) _ S = _
        unfold b__law_drawn_term
        refine ws_mkFe (ρ := [some (.c k), some (.p (.int (d : Int))), some (.p (lsP ls)), none, none]) rfl rfl ?_
        refine ws_seq s1 (ws_of (ev_seq (ev_sif t0 (ifK_t (ev_ret (ev_tup (ev_acons (ev_fn (ev_acons (ev_var rfl) (ev_acons e ev_anil)) e3) ev_anil) (frzs_s fr_p frzs_z) (by simp))))) thn_r) (end_len u13.len))
      by_cases h2 : q2 = 0
      · refine go (ls.map (fun c => P.str [c]) ++ [.str [48], .str [49]]) (by simp) (by simp; omega) (fun x hx => ?_) ?_
        · rcases List.mem_append.mp hx with z | z
          · obtain ⟨c, hc, rfl⟩ := List.mem_map.mp z
            exact ⟨c, rfl, .inl hc⟩
          · have : x = .str [48] ∨ x = .str [49] := by simpa using z
            rcases this with z | z
            · exact ⟨48, z, .inr (.inl rfl)⟩
            · exact ⟨49, z, .inr (.inr rfl)⟩
        · exact ev_if (ev_tval (ev_bin (ev_fn (ev_acons (ev_var rfl) (ev_acons ev_c ev_anil)) e2) ev_c rfl rfl (eq0_t h2))) (ifK_t (ev_bin (ev_var rfl) (ev_lst (ev_acons ev_c (ev_acons ev_c ev_anil)) (frzs_s fr_p (frzs_s fr_p frzs_z)) (by simp)) rfl rfl (op_addL (by simp; omega))))
      · refine go (ls.map fun c => P.str [c]) (by simpa using hne) (by rw [List.length_map]; omega) (fun x hx => ?_) ?_
        · obtain ⟨c, hc, rfl⟩ := List.mem_map.mp hx
          exact ⟨c, rfl, .inl hc⟩
        · exact ev_if (ev_tval (ev_bin (ev_fn (ev_acons (ev_var rfl) (ev_acons ev_c ev_anil)) e2) ev_c rfl rfl (eq0_f h2))) (ifK_f (ev_var rfl))
    · have t0 : tOrM (tVal (eBin pEq (eVar 1) (eC (.int 0)))) (tVal (eBin pEq (eVar 3) (eC (.int 0)))) [some (.c k), some (.p (.int (d : Int))), some (.p (lsP ls)), some (.p (.int (q : Int))), none] S1 = .ok false S1 := ev_tor (ev_tval (ev_bin (ev_var rfl) ev_c rfl rfl (eq0_f (by omega)))) (orK_f (ev_tval (ev_bin (ev_var rfl) ev_c rfl rfl (eq0_f (by omega)))))
      have t1 : tVal (eBin bLt (eVar 3) (eC (.int 6))) [some (.c k), some (.p (.int (d : Int))), some (.p (lsP ls)), some (.p (.int (q : Int))), none] S1 = .ok (decide (q < 6)) S1 := ev_tval (ev_bin (ev_var rfl) ev_c rfl rfl (op_ltN (b := 6)))
      have sb : ∀ {ρ : En} {T : Sto}, ρ[1]? = some (some (.p (.int (d : Int)))) → eBin (pI fun i j => i - j) (eVar 1) (eC (.int 1)) ρ T = .ok (.p (.int ((d - 1 : Nat) : Int))) T := fun hρ => ev_bin (ev_var hρ) ev_c rfl rfl (op_sub1 (by omega))
      obtain ⟨t, S2, e2, ok2, dp2, u2⟩ := drawn_term_ok hne hlen (d - 1) f (by omega) (by omega) u1.urn
      by_cases h6 : q < 6
      · rw [decide_eq_true h6] at t1
        obtain ⟨s, hs, es⟩ := deed_at (q := q) (by omega) h6
        refine ⟨.un s t, S2, ?_, ⟨hs, ok2⟩, by show t.dep + 1 ≤ d; omega, u1.trans u2⟩
        show mkF 3 2 (b__law_drawn_term (m__law_drawn_term f)) _ S = _
        unfold b__law_drawn_term
        refine ws_mkFe (ρ := [some (.c k), some (.p (.int (d : Int))), some (.p (lsP ls)), none, none]) rfl rfl ?_
        refine ws_seq s1 (ws_seq (ev_sif t0 (ifK_f ev_pass)) (ws_of (ev_seq (ev_sif t1 (ifK_t (ev_ret (ev_tup (ev_acons (ev_item (ev_lst (ev_acons ev_c (ev_acons ev_c (ev_acons ev_c (ev_acons ev_c (ev_acons ev_c ev_anil))))) (frzs_s fr_p (frzs_s fr_p (frzs_s fr_p (frzs_s fr_p (frzs_s fr_p frzs_z))))) (by simp)) (ev_bin (ev_var rfl) ev_c rfl rfl op_pI) (ixv_p es)) (ev_acons (ev_fn (ev_acons (ev_var rfl) (ev_acons (sb rfl) (ev_acons (ev_var rfl) ev_anil))) e2) ev_anil)) (frzs_s fr_p (frzs_s fr_p frzs_z)) (by simp))))) thn_r) (end_len (u1.trans u2).len)))
      · rw [decide_eq_false h6] at t1
        obtain ⟨s, hs, es⟩ := pair_at (q := q) (by omega) hq
        obtain ⟨t', S3, e3, ok3, dp3, u3⟩ := drawn_term_ok hne hlen (d - 1) f (by omega) (by omega) u2.urn
        refine ⟨.bin s t t', S3, ?_, ⟨hs, ok2, ok3⟩, by show max t.dep t'.dep + 1 ≤ d; omega, (u1.trans u2).trans u3⟩
        show mkF 3 2 (b__law_drawn_term (m__law_drawn_term f)) _ S = _
        unfold b__law_drawn_term
        refine ws_mkFe (ρ := [some (.c k), some (.p (.int (d : Int))), some (.p (lsP ls)), none, none]) rfl rfl ?_
        refine ws_seq s1 (ws_seq (ev_sif t0 (ifK_f ev_pass)) (ws_seq (ev_sif t1 (ifK_f ev_pass)) (ws_seq (ev_asg (ev_fn (ev_acons (ev_var rfl) (ev_acons (sb rfl) (ev_acons (ev_var rfl) ev_anil))) e2) (ev_gnm rfl)) (ws_of (ev_ret (ev_tup (ev_acons (ev_item (ev_lst (ev_acons ev_c (ev_acons ev_c (ev_acons ev_c ev_anil))) (frzs_s fr_p (frzs_s fr_p (frzs_s fr_p frzs_z))) (by simp)) (ev_bin (ev_var rfl) ev_c rfl rfl op_pI) (ixv_p es)) (ev_acons (ev_var rfl) (ev_acons (ev_fn (ev_acons (ev_var rfl) (ev_acons (sb rfl) (ev_acons (ev_var rfl) ev_anil))) e3) ev_anil))) (frzs_s fr_p (frzs_s fr_p (frzs_s fr_p frzs_z))) (by simp))) (end_len ((u1.trans u2).trans u3).len)))))
end Law

namespace Law
open PySem L2 Mir Pl
theorem term_text_ok : ∀ (t : Tr) (f : Nat), t.dep < f → t.txt.length ≤ 100000 → ∀ S : Sto, m__law_term_text f [.p (Tr.toP t)] S = .ok (.p (.str t.txt)) S
  | _, 0, h, _, S => absurd h (Nat.not_lt_zero _)
  | .leaf s, f + 1, h, hl, S => by
    show mkF 1 0 (b__law_term_text (m__law_term_text f)) [.p (.tup [.str [s]])] S = .ok (.p (.str [s])) S
    unfold b__law_term_text
    refine ws_mkFe (ρ := [some (.p (.tup [.str [s]]))]) rfl rfl ?_
    exact ws_of (ev_seq (ev_sif (ev_tval (ev_bin (ev_call (ev_acons (ev_var rfl) ev_anil) (rds_c rfl (rds_nil _)) op_lenT) ev_c rfl rfl (eqc_t rfl))) (ifK_t (ev_ret (ev_item (ev_var rfl) ev_c (ixv_p ix_t0))))) thn_r) end_self
  | .un s t, f + 1, h, hl, S => by
    have hlen : (Tr.un s t).txt.length = t.txt.length + 3 := by
      show (s :: 40 :: (t.txt ++ [41])).length = _
      simp
    have h : t.dep + 1 < f + 1 := h
    have ih := term_text_ok t f (by omega) (by omega) S
    have e : (([s] ++ [40]) ++ t.txt) ++ [41] = (Tr.un s t).txt := by
      show _ = s :: 40 :: (t.txt ++ [41])
      simp
    rw [← e]
    show mkF 1 0 (b__law_term_text (m__law_term_text f)) [.p (.tup [.str [s], t.toP])] S = _
    unfold b__law_term_text
    refine ws_mkFe (ρ := [some (.p (.tup [.str [s], t.toP]))]) rfl rfl ?_
    refine ws_seq (ev_sif (ev_tval (ev_bin (ev_call (ev_acons (ev_var rfl) ev_anil) (rds_c rfl (rds_nil _)) op_lenT) ev_c rfl rfl (eqc_f rfl))) (ifK_f ev_pass)) ?_
    refine ws_of (ev_seq (ev_sif (ev_tval (ev_bin (ev_call (ev_acons (ev_var rfl) ev_anil) (rds_c rfl (rds_nil _)) op_lenT) ev_c rfl rfl (eqc_t rfl))) (ifK_t (ev_ret (ev_bin (ev_bin (ev_bin (ev_item (ev_var rfl) ev_c (ixv_p ix_t0)) ev_c rfl rfl (op_addS (by simp))) (ev_fn (ev_acons (ev_item (ev_var rfl) ev_c (ixv_p ix_t1)) ev_anil) ih) rfl rfl (op_addS (by simp; omega))) ev_c rfl rfl (op_addS (by simp; omega)))))) thn_r) end_self
  | .bin s t u, f + 1, h, hl, S => by
    have hlen : (Tr.bin s t u).txt.length = t.txt.length + u.txt.length + 5 := by
      show (40 :: (t.txt ++ (32 :: s :: 32 :: (u.txt ++ [41])))).length = _
      simp
      omega
    have h : max t.dep u.dep + 1 < f + 1 := h
    have ih := term_text_ok t f (by omega) (by omega) S
    have ih2 := term_text_ok u f (by omega) (by omega) S
    have e : ((((([40] ++ t.txt) ++ [32]) ++ [s]) ++ [32]) ++ u.txt) ++ [41] = (Tr.bin s t u).txt := by
      show _ = 40 :: (t.txt ++ (32 :: s :: 32 :: (u.txt ++ [41])))
      simp
    rw [← e]
    show mkF 1 0 (b__law_term_text (m__law_term_text f)) [.p (.tup [.str [s], t.toP, u.toP])] S = _
    unfold b__law_term_text
    refine ws_mkFe (ρ := [some (.p (.tup [.str [s], t.toP, u.toP]))]) rfl rfl ?_
    refine ws_seq (ev_sif (ev_tval (ev_bin (ev_call (ev_acons (ev_var rfl) ev_anil) (rds_c rfl (rds_nil _)) op_lenT) ev_c rfl rfl (eqc_f rfl))) (ifK_f ev_pass)) ?_
    refine ws_seq (ev_sif (ev_tval (ev_bin (ev_call (ev_acons (ev_var rfl) ev_anil) (rds_c rfl (rds_nil _)) op_lenT) ev_c rfl rfl (eqc_f rfl))) (ifK_f ev_pass)) ?_
    refine ws_of (ev_ret (ev_bin (ev_bin (ev_bin (ev_bin (ev_bin (ev_bin ev_c (ev_fn (ev_acons (ev_item (ev_var rfl) ev_c (ixv_p ix_t1)) ev_anil) ih) rfl rfl (op_addS (by simp; omega))) ev_c rfl rfl (op_addS (by simp; omega))) (ev_item (ev_var rfl) ev_c (ixv_p ix_t0)) rfl rfl (op_addS (by simp; omega))) ev_c rfl rfl (op_addS (by simp; omega))) (ev_fn (ev_acons (ev_item (ev_var rfl) ev_c (ixv_p ix_t2)) ev_anil) ih2) rfl rfl (op_addS (by simp; omega))) ev_c rfl rfl (op_addS (by simp; omega)))) end_self
section
variable {n : Nat} {near lots : List (List Nat)}
end
end Law

namespace Law
open PySem L2 Mir Pl
theorem txt_len : ∀ t : Tr, t.txt.length + 5 ≤ 6 * 2 ^ t.dep
  | .leaf s => by
    show 1 + 5 ≤ 6 * 2 ^ 0
    decide
  | .un s t => by
    have := txt_len t
    show (s :: 40 :: (t.txt ++ [41])).length + 5 ≤ 6 * 2 ^ (t.dep + 1)
    rw [Nat.pow_succ]
    simp
    omega
  | .bin s t u => by
    have h1 := txt_len t
    have h2 := txt_len u
    have p1 : 2 ^ t.dep ≤ 2 ^ max t.dep u.dep := Nat.pow_le_pow_right (by decide) (Nat.le_max_left _ _)
    have p2 : 2 ^ u.dep ≤ 2 ^ max t.dep u.dep := Nat.pow_le_pow_right (by decide) (Nat.le_max_right _ _)
    show (40 :: (t.txt ++ (32 :: s :: 32 :: (u.txt ++ [41])))).length + 5 ≤ 6 * 2 ^ (max t.dep u.dep + 1)
    rw [Nat.pow_succ]
    simp
    omega
section
variable {n : Nat} {near lots : List (List Nat)} (hn : Near n near) {l m : List Nat} (hl : Lot n l) (hm : Lot n m)
end
section
variable {n : Nat} {near lots : List (List Nat)}
variable (hn : Near n near) (hlots : ∀ l ∈ lots, Lot n l) {ls : List Nat}
include hn hlots
end
end Law

namespace Law
open PySem L2 Mir Pl
section
variable {n : Nat} {near lots : List (List Nat)} (hn : Near n near) (hlots : ∀ l ∈ lots, Lot n l) {ls : List Nat} (hls : Ltr ls)
include hn hlots hls
end
end Law

namespace Law
open PySem L2 Mir Pl
end Law

namespace Law
open PySem L2 Mir Pl
theorem tmtext_ok (tx : List Nat) (S : Sto) : m_Term_text [.p (trmP tx)] S = .ok (.p (.str tx)) S := by
  unfold m_Term_text b_Term_text
  refine ev_mkF rfl rfl (ev_ret (ev_fld (ev_var rfl) (fldn_term tx S))) ?_
  rw [endF_p, take_self]
theorem term_text_made {ls : List Nat} (hls : Ltr ls) {t : Tr} (hk : t.ok ls) (hl : t.txt.length ≤ 300) (S : Sto) : mkO false "Term" m_Term___init__ [.p (.str t.txt)] S = .ok (.p (trmP t.txt)) S := by
  obtain ⟨r, M, e, _⟩ := read_term hls hk (L := []) ⟨.nil, fun i x hi => by cases hi⟩ (by omega)
  exact make_term hl (txt_asc hls hk) (by rw [e]; rfl) S
end Law

namespace Law
open PySem L2 Mir Pl
def F3 (a b c : Bool) : List Nat := (if a then [120] else []) ++ ((if b then [121] else []) ++ (if c then [122] else []))
abbrev one (l : List Nat) : List P := l.map fun c => P.str [c]
end Law

namespace Law
open PySem L2 Mir Pl
theorem tm_repr_ok {tx : List Nat} (hl : tx.length ≤ 300) (S : Sto) : m_Term___repr__ [.p (trmP tx)] S = .ok (.p (.str ([84, 101, 114, 109, 32] ++ tx))) S := by
  have e1 : eFld "Term" "told" (eVar 0) [some (.p (trmP tx))] S = .ok (.p (.str tx)) S := ev_fld (ev_var rfl) (fldn_term tx S)
  have f1 : fmt1 (.p (.str tx)) = some tx := by
    show (if tx.length ≤ 100000 then some tx else none) = _
    rw [if_pos (by omega)]
  have ej : eJoin (jTxt [84, 101, 114, 109, 32] (jFmt (eFld "Term" "told" (eVar 0)) jNil)) [some (.p (trmP tx))] S = .ok (.p (.str ([84, 101, 114, 109, 32] ++ tx))) S := by
    unfold eJoin jTxt jFmt jNil
    rw [if_pos (by decide), e1, bind_ok, f1]
    dsimp only
    rw [if_pos (by simp; omega), bind_ok]
    rfl
  unfold m_Term___repr__ b_Term___repr__
  refine ev_mkF rfl rfl (ev_ret ej) ?_
  rw [endF_p, take_self]
end Law

namespace Law
open PySem L2 Mir Pl
def okV : P → Bool
  | .non => true
  | .bl _ => true
  | .int _ => true
  | .str _ => true
  | .tup _ => true
  | .lst _ => true
  | .dct _ _ => true
  | .obj c _ _ => isiCs.contains c
  | _ => false
def isStrP : P → Bool
  | .str _ => true
  | _ => false
theorem isi_str {x : P} (h : okV x = true) (S : Sto) : ∃ T, tgOf S (nv S (.p x)) = some T ∧ isT isiCs T (.ty "str") = some (isStrP x) := by
  cases x with
  | obj c ns xs =>
    refine ⟨.o c, rfl, ?_⟩
    have h : isiCs.contains c = true := h
    unfold isT
    dsimp only
    rw [if_pos ⟨List.contains_iff_mem.mp h, by decide⟩]
    rfl
  | ty _ => cases h
  | glo _ => cases h
  | raw _ => cases h
  | rwp _ _ => cases h
  | scr _ => cases h
  | dcl _ _ => cases h
  | _ => exact ⟨_, rfl, rfl⟩
def SV (x : P) (t : List Nat) : Prop := ∃ s : PySem.Str, showP rT x = some s ∧ txL s = t ∧ asc t = true ∧ s.length ≤ 100000
theorem show_plain {x : P} (h : x.dat 60 = true) (hs : x.toD.showable = true) (hn : x.nInt = true) (hz : x.sz ≤ 100000) : SV x (reprP x) := by
  refine ⟨x.toD.shown, ?_, rfl, reprP_asc2 h hn, Nat.le_trans (shown_len x 60 h) hz⟩
  cases x with
  | lst xs =>
    show (if plainP (.lst xs) then _ else _) = _
    unfold plainP
    rw [h, hs]
    rfl
  | tup xs =>
    show (if plainP (.tup xs) then _ else _) = _
    unfold plainP
    rw [h, hs]
    rfl
  | non => rfl
  | bl b => cases b <;> rfl
  | int i =>
    have hs : decide (i.natAbs.log2 < 1920) = true := hs
    show (if i.natAbs.log2 < 1920 then _ else _) = _
    rw [if_pos (of_decide_eq_true hs)]
    rfl
  | str y => rfl
  | dct _ _ => cases h
  | obj _ _ _ => cases h
  | ty _ => cases h
  | glo _ => cases h
  | raw _ => cases h
  | rwp _ _ => cases h
  | scr _ => cases h
  | dcl _ _ => cases h
end Law

namespace Pl
open PySem StrLaws
inductive Md
  | T | P | D | S | Q | F
deriving DecidableEq
abbrev Q0 := Md × List Bool
def dS : List Nat := [99, 105, 110]
def d1 (ls : List Nat) (q : Q0) (c : Nat) : Q0 := match q with
  | (.T, st) => if c ∈ ls then (.D, st) else if c ∈ dS then (.P, st) else if c = 40 then (.T, true :: st) else (.F, [])
  | (.P, st) => if c = 40 then (.T, false :: st) else (.F, [])
  | (.D, false :: st) => if c = 41 then (.D, st) else (.F, [])
  | (.D, true :: st) => if c = 32 then (.S, true :: st) else (.F, [])
  | (.D, []) => (.F, [])
  | (.S, st) => if c = 38 ∨ c = 124 then (.Q, st) else (.F, [])
  | (.Q, true :: st) => if c = 32 then (.T, false :: st) else (.F, [])
  | (.Q, _) => (.F, [])
  | (.F, _) => (.F, [])
def dR (ls : List Nat) (q : Q0) (u : List Nat) : Q0 := u.foldl (d1 ls) q
def acc (ls u : List Nat) : Bool := decide (dR ls (.T, []) u = (.D, []))
theorem dR_cons (ls : List Nat) (q : Q0) (c : Nat) (u : List Nat) : dR ls q (c :: u) = dR ls (d1 ls q c) u := rfl
theorem dR_app (ls : List Nat) (q : Q0) (u v : List Nat) : dR ls q (u ++ v) = dR ls (dR ls q u) v := List.foldl_append ..
theorem dR_F (ls : List Nat) : ∀ (u : List Nat) (st : List Bool), dR ls (.F, st) u = (.F, st) ∨ dR ls (.F, st) u = (.F, [])
  | [], st => .inl rfl
  | c :: u, st => by
    rw [dR_cons]
    show dR ls (.F, []) u = _ ∨ dR ls (.F, []) u = _
    rcases dR_F ls u [] with h | h <;> exact .inr h
theorem dR_F' (ls u : List Nat) : dR ls (.F, []) u = (.F, []) := by rcases dR_F ls u [] with h | h <;> exact h
abbrev plS : List Nat := [120, 121, 122, 48, 49]
abbrev lX : List Nat := 88 :: plS
def pats : List (List Nat) := [[99, 40, 88, 41], [105, 40, 88, 41], [110, 40, 88, 41], [40, 88, 32, 38, 32, 88, 41], [40, 88, 32, 124, 32, 88, 41]]
theorem d_leaf {c : Nat} (h : c ∈ lX) (q : Q0) : d1 lX q c = d1 lX q 88 := by
  simp only [List.mem_cons, List.not_mem_nil, or_false] at h
  obtain ⟨m, st⟩ := q
  rcases h with rfl | rfl | rfl | rfl | rfl | rfl <;> cases m <;> (try rfl) <;> (cases st with
    | nil => rfl
    | cons b st => cases b <;> rfl)
theorem d_pat {p : List Nat} (h : p ∈ pats) (q : Q0) : dR lX q p = dR lX q [88] := by
  simp only [pats, List.mem_cons, List.not_mem_nil, or_false] at h
  obtain ⟨m, st⟩ := q
  rcases h with rfl | rfl | rfl | rfl | rfl <;> cases m <;> (try rfl) <;> (cases st with
    | nil => rfl
    | cons b st => cases b <;> rfl)
theorem dR_repl {p : List Nat} (hp : p ≠ []) (h : ∀ q, dR lX q p = dR lX q [88]) : ∀ (n : Nat) (u : List Nat) (q : Q0), u.length ≤ n → dR lX q (replL p [88] u) = dR lX q u
  | _, [], q, _ => by rw [replL_nil]
  | 0, c :: u, q, hl => by simp at hl
  | n + 1, c :: u, q, hl => by
    have hl : u.length ≤ n := by simpa using hl
    by_cases e : (c :: u).take p.length = p
    · rw [replL_hit hp e, dR_app, dR_repl hp h n _ _ (by
        rw [List.length_drop]
        have : 0 < p.length := List.length_pos_iff.mpr hp
        simp only [List.length_cons]
        omega), ← h q, ← dR_app]
      congr 1
      exact (congrArg (· ++ (c :: u).drop p.length) e.symm).trans (List.take_append_drop _ _)
    · rw [replL_miss e, dR_cons, dR_cons, dR_repl hp h n u _ hl]
theorem repl_len {p : List Nat} (hp : 2 ≤ p.length) : ∀ (n : Nat) (u : List Nat), u.length ≤ n → (replL p [88] u).length < u.length ∨ (replL p [88] u = u ∧ ¬ p <:+: u)
  | _, [], _ => by
    rw [replL_nil]
    refine .inr ⟨rfl, fun h => ?_⟩
    have := h.length_le
    rw [List.length_nil] at this
    omega
  | 0, c :: u, hl => by simp at hl
  | n + 1, c :: u, hl => by
    have hl : u.length ≤ n := by simpa using hl
    have hp0 : p ≠ [] := fun e => by rw [e] at hp; simp at hp
    by_cases e : (c :: u).take p.length = p
    · left
      have e2 : p.length ≤ (c :: u).length := by
        have := congrArg List.length e
        rw [List.length_take] at this
        omega
      rw [replL_hit hp0 e, List.length_append]
      have h3 := repl_len hp n ((c :: u).drop p.length) (by rw [List.length_drop]; simp only [List.length_cons]; omega)
      have h4 : (replL p [88] ((c :: u).drop p.length)).length ≤ ((c :: u).drop p.length).length := by
        rcases h3 with h3 | h3
        · omega
        · rw [h3.1]; exact Nat.le_refl _
      rw [List.length_drop] at h4
      simp only [List.length_cons, List.length_nil] at *
      omega
    · rw [replL_miss e]
      rcases repl_len hp n u hl with h | ⟨h, h2⟩
      · left
        simpa using h
      · right
        refine ⟨by rw [h], fun hi => ?_⟩
        rcases List.infix_cons_iff.mp hi with h3 | h3
        · exact e (List.prefix_iff_eq_take.mp h3).symm
        · exact h2 h3
end Pl
namespace Pl
open PySem StrLaws
theorem infix_mid {p a b c : List Nat} (h : p <:+: b) : p <:+: a ++ b ++ c := by
  obtain ⟨x, y, e⟩ := h
  exact ⟨a ++ x, y ++ c, by rw [← e]; simp⟩
theorem F_no {ls u : List Nat} : dR ls (.F, []) u ≠ (.D, []) := by
  rw [dR_F']
  intro h
  cases h
inductive How : List Nat → List Bool → Prop
  | start : How [] []
  | deed {c : Nat} {st : List Bool} (h : c ∈ dS) : How [c, 40] (false :: st)
  | paren {st : List Bool} : How [40] (true :: st)
  | op {c : Nat} {st : List Bool} (h : c = 38 ∨ c = 124) : How [40, 88, 32, c, 32] (false :: st)
theorem find_pat : ∀ (n : Nat) (w h : List Nat) (st : List Bool), w.length ≤ n → How h st → (∀ c ∈ w, c ∉ plS) → dR lX (.T, st) w = (.D, []) → (st = [] ∧ w = [88]) ∨ ∃ p ∈ pats, p <:+: h ++ w
  | _, [], h, st, _, _, _, e => by cases e
  | 0, c :: w, _, _, hl, _, _, _ => by simp at hl
  | n + 1, c :: w, h, st, hl, hh, hw, e => by
    have hl : w.length ≤ n := by simpa using hl
    have hc : c ∉ plS := hw c (by simp)
    have hw' : ∀ d ∈ w, d ∉ plS := fun d hd => hw d (List.mem_cons_of_mem _ hd)
    rw [dR_cons] at e
    by_cases c8 : c = 88
    · subst c8
      have e : dR lX (.D, st) w = (.D, []) := e
      cases w with
      | nil =>
        have e : (Md.D, st) = (Md.D, []) := e
        cases e
        exact .inl ⟨rfl, rfl⟩
      | cons d w =>
        rw [dR_cons] at e
        cases st with
        | nil => exact absurd e F_no
        | cons b st =>
          cases b with
          | false =>
            by_cases d4 : d = 41
            · subst d4
              right
              cases hh with
              | deed hc => 
                simp only [dS, List.mem_cons, List.not_mem_nil, or_false] at hc
                rcases hc with rfl | rfl | rfl
                · exact ⟨[99, 40, 88, 41], by decide, [], w, by simp⟩
                · exact ⟨[105, 40, 88, 41], by decide, [], w, by simp⟩
                · exact ⟨[110, 40, 88, 41], by decide, [], w, by simp⟩
              | op hc =>
                rcases hc with rfl | rfl
                · exact ⟨[40, 88, 32, 38, 32, 88, 41], by decide, [], w, by simp⟩
                · exact ⟨[40, 88, 32, 124, 32, 88, 41], by decide, [], w, by simp⟩
            · have e2 : d1 lX (.D, false :: st) d = (.F, []) := by show (if d = 41 then _ else _) = _; rw [if_neg d4]
              rw [e2] at e
              exact absurd e F_no
          | true =>
            by_cases d3 : d = 32
            · subst d3
              have e : dR lX (.S, true :: st) w = (.D, []) := e
              cases w with
              | nil => cases e
              | cons o w =>
                rw [dR_cons] at e
                by_cases ho : o = 38 ∨ o = 124
                · have e2 : d1 lX (.S, true :: st) o = (.Q, true :: st) := by show (if o = 38 ∨ o = 124 then _ else _) = _; rw [if_pos ho]
                  rw [e2] at e
                  cases w with
                  | nil => cases e
                  | cons s w =>
                    rw [dR_cons] at e
                    by_cases s3 : s = 32
                    · subst s3
                      have e : dR lX (.T, false :: st) w = (.D, []) := e
                      right
                      cases hh with
                      | paren =>
                        rcases find_pat n w [40, 88, 32, o, 32] (false :: st) (by simp only [List.length_cons] at hl; omega) (.op ho) (fun d hd => hw' d (by simp [hd])) e with h1 | ⟨p, hp, hi⟩
                        · cases h1.1
                        · exact ⟨p, hp, hi⟩
                    · have e2 : d1 lX (.Q, true :: st) s = (.F, []) := by show (if s = 32 then _ else _) = _; rw [if_neg s3]
                      rw [e2] at e
                      exact absurd e F_no
                · have e2 : d1 lX (.S, true :: st) o = (.F, []) := by show (if o = 38 ∨ o = 124 then _ else _) = _; rw [if_neg ho]
                  rw [e2] at e
                  exact absurd e F_no
            · have e2 : d1 lX (.D, true :: st) d = (.F, []) := by show (if d = 32 then _ else _) = _; rw [if_neg d3]
              rw [e2] at e
              exact absurd e F_no
    · have cx : c ∉ lX := fun z => by
        rcases List.mem_cons.mp z with z | z
        · exact c8 z
        · exact hc z
      have e0 : d1 lX (.T, st) c = if c ∈ dS then (.P, st) else if c = 40 then (.T, true :: st) else (.F, []) := by
        show (if c ∈ lX then _ else _) = _
        rw [if_neg cx]
      rw [e0] at e
      by_cases hd : c ∈ dS
      · rw [if_pos hd] at e
        cases w with
        | nil => cases e
        | cons d w =>
          rw [dR_cons] at e
          by_cases d4 : d = 40
          · subst d4
            have e : dR lX (.T, false :: st) w = (.D, []) := e
            rcases find_pat n w [c, 40] (false :: st) (by simp only [List.length_cons] at hl; omega) (.deed hd) (fun d hd => hw' d (by simp [hd])) e with h1 | ⟨p, hp, hi⟩
            · cases h1.1
            · right
              refine ⟨p, hp, ?_⟩
              have := infix_mid (a := h) (c := []) hi
              simpa using this
          · have e2 : d1 lX (.P, st) d = (.F, []) := by show (if d = 40 then _ else _) = _; rw [if_neg d4]
            rw [e2] at e
            exact absurd e F_no
      · rw [if_neg hd] at e
        by_cases c4 : c = 40
        · rw [if_pos c4] at e
          subst c4
          rcases find_pat n w [40] (true :: st) (by simpa using hl) .paren hw' e with h1 | ⟨p, hp, hi⟩
          · cases h1.1
          · right
            refine ⟨p, hp, ?_⟩
            have := infix_mid (a := h) (c := []) hi
            simpa using this
        · rw [if_neg c4] at e
          exact absurd e F_no
def rw5 (u : List Nat) : List Nat := pats.foldl (fun v p => replL p [88] v) u
theorem rw5_run (u : List Nat) (q : Q0) : dR lX q (rw5 u) = dR lX q u := by
  have step : ∀ (ps : List (List Nat)), (∀ p ∈ ps, p ∈ pats) → ∀ v, dR lX q (ps.foldl (fun v p => replL p [88] v) v) = dR lX q v := by
    intro ps
    induction ps with
    | nil => intro _ v; rfl
    | cons p ps ih =>
      intro h v
      rw [List.foldl_cons, ih (fun p' hp => h p' (List.mem_cons_of_mem _ hp))]
      have hp := h p (by simp)
      exact dR_repl (fun z => by subst z; revert hp; decide) (d_pat hp) v.length v q (Nat.le_refl _)
  exact step pats (fun _ h => h) u
theorem rw5_len (u : List Nat) : (rw5 u).length < u.length ∨ (rw5 u = u ∧ ∀ p ∈ pats, ¬ p <:+: u) := by
  have step : ∀ (ps : List (List Nat)), (∀ p ∈ ps, p ∈ pats) → ∀ v : List Nat, (ps.foldl (fun v p => replL p [88] v) v).length < v.length ∨ (ps.foldl (fun v p => replL p [88] v) v = v ∧ ∀ p ∈ ps, ¬ p <:+: v) := by
    intro ps
    induction ps with
    | nil => intro _ v; exact .inr ⟨rfl, fun p hp => by cases hp⟩
    | cons p ps ih =>
      intro h v
      rw [List.foldl_cons]
      have hp := h p (by simp)
      have h2 : 2 ≤ p.length := by
        have : pats.all (fun p => decide (2 ≤ p.length)) = true := by decide
        exact of_decide_eq_true (List.all_eq_true.mp this p hp)
      have ih' := ih (fun p' hp => h p' (List.mem_cons_of_mem _ hp)) (replL p [88] v)
      rcases repl_len h2 v.length v (Nat.le_refl _) with h3 | ⟨h3, h4⟩
      · left
        rcases ih' with h5 | h5
        · omega
        · rw [h5.1]; exact h3
      · rw [h3] at ih' ⊢
        rcases ih' with h5 | ⟨h5, h6⟩
        · exact .inl h5
        · refine .inr ⟨h5, fun p' hp' => ?_⟩
          rcases List.mem_cons.mp hp' with rfl | hp'
          · exact h4
          · exact h6 p' hp'
  exact step pats (fun _ h => h) u
theorem rw5_end {u : List Nat} (hu : rw5 u = u) (hw : ∀ c ∈ u, c ∉ plS) : acc lX u = true ↔ u = [88] := by
  have hn : ∀ p ∈ pats, ¬ p <:+: u := by
    rcases rw5_len u with h | h
    · rw [hu] at h; omega
    · exact h.2
  constructor
  · intro h
    rcases find_pat u.length u [] [] (Nat.le_refl _) .start hw (of_decide_eq_true h) with h1 | ⟨p, hp, hi⟩
    · exact h1.2
    · exact absurd (by simpa using hi) (hn p hp)
  · rintro rfl
    decide
end Pl

namespace Pl
open PySem StrLaws
def lets : List (List Nat) := [[120], [121], [122], [48], [49]]
theorem repl_map {c : Nat} : ∀ (u : List Nat), replL [c] [88] u = u.map fun d => if d = c then 88 else d
  | [] => by rw [replL_nil]; rfl
  | d :: u => by
    by_cases h : d = c
    · subst h
      rw [replL_hit (by simp) (by simp), List.map_cons, if_pos rfl]
      show [88] ++ replL [d] [88] u = _
      rw [repl_map u]
      rfl
    · rw [replL_miss (by simpa using h), repl_map u, List.map_cons, if_neg h]
def rwL (u : List Nat) : List Nat := lets.foldl (fun v p => replL p [88] v) u
def toX (d : Nat) : Nat := if d ∈ plS then 88 else d
theorem rwL_map (u : List Nat) : rwL u = u.map toX := by
  show replL [49] [88] (replL [48] [88] (replL [122] [88] (replL [121] [88] (replL [120] [88] u)))) = _
  rw [repl_map, repl_map, repl_map, repl_map, repl_map, List.map_map, List.map_map, List.map_map, List.map_map]
  apply List.map_congr_left
  intro d _
  show (if (if (if (if (if d = 120 then 88 else d) = 121 then 88 else (if d = 120 then 88 else d)) = 122 then 88 else (if (if d = 120 then 88 else d) = 121 then 88 else (if d = 120 then 88 else d))) = 48 then 88 else _) = 49 then 88 else _) = toX d
  unfold toX plS
  by_cases h1 : d = 120
  · subst h1; decide
  by_cases h2 : d = 121
  · subst h2; decide
  by_cases h3 : d = 122
  · subst h3; decide
  by_cases h4 : d = 48
  · subst h4; decide
  by_cases h5 : d = 49
  · subst h5; decide
  simp [h1, h2, h3, h4, h5]
theorem rwL_run : ∀ (u : List Nat) (q : Q0), dR lX q (u.map toX) = dR lX q u
  | [], q => rfl
  | d :: u, q => by
    rw [List.map_cons, dR_cons, dR_cons, rwL_run u]
    congr 1
    unfold toX
    by_cases h : d ∈ plS
    · rw [if_pos h, d_leaf (List.mem_cons_of_mem _ h)]
    · rw [if_neg h]
theorem toX_no {c : Nat} {u : List Nat} (h : c ∈ u.map toX) : c ∉ plS := by
  obtain ⟨d, _, rfl⟩ := List.mem_map.mp h
  unfold toX
  by_cases hd : d ∈ plS
  · rw [if_pos hd]; decide
  · rw [if_neg hd]; exact hd
theorem d_noX {c : Nat} (h : c ≠ 88) (q : Q0) : d1 plS q c = d1 lX q c := by
  obtain ⟨m, st⟩ := q
  cases m with
  | T =>
    show (if c ∈ plS then _ else _) = (if c ∈ lX then _ else _)
    by_cases hc : c ∈ plS
    · rw [if_pos hc, if_pos (List.mem_cons_of_mem _ hc)]
    · have hx : c ∉ lX := fun z => by
        rcases List.mem_cons.mp z with z | z
        · exact h z
        · exact hc z
      rw [if_neg hc, if_neg hx]
  | P => rfl
  | S => rfl
  | F => rfl
  | D => cases st with
    | nil => rfl
    | cons b st => cases b <;> rfl
  | Q => cases st with
    | nil => rfl
    | cons b st => cases b <;> rfl
theorem dR_noX : ∀ (u : List Nat) (q : Q0), 88 ∉ u → dR plS q u = dR lX q u
  | [], q, _ => rfl
  | c :: u, q, h => by
    rw [dR_cons, dR_cons, d_noX (fun z => h (by simp [z])), dR_noX u _ (fun z => h (List.mem_cons_of_mem _ z))]
theorem d_X (q : Q0) : (d1 plS q 88).1 = .F := by
  obtain ⟨m, st⟩ := q
  cases m <;> (try rfl) <;> (cases st with
    | nil => rfl
    | cons b st => cases b <;> rfl)
theorem dR_F1 {ls u : List Nat} {q : Q0} (h : q.1 = .F) : dR ls q u ≠ (.D, []) := by
  obtain ⟨m, st⟩ := q
  have h : m = .F := h
  subst h
  rcases dR_F ls u st with e | e <;> (rw [e]; intro z; cases z)
theorem acc_X {u : List Nat} (h : 88 ∈ u) : acc plS u = false := by
  obtain ⟨a, b, rfl⟩ := List.append_of_mem h
  unfold acc
  refine decide_eq_false ?_
  rw [dR_app, dR_cons]
  exact dR_F1 (d_X _)
theorem law_reads {u v : List Nat} (hX : 88 ∉ u) (hr : ∀ q, dR lX q v = dR lX q (rwL u)) (he : rw5 v = v) (hw : ∀ c ∈ v, c ∉ plS) : (v == [88]) = acc plS u := by
  have h1 : acc lX v = acc plS u := by
    unfold acc
    rw [hr, rwL_map, rwL_run, dR_noX u _ hX]
  rw [← h1, Bool.eq_iff_iff, rw5_end he hw, beq_iff_eq]
def stk (op : List Row) : List Bool := op.map fun f => decide (f.1 = 40)
def OpOk (op : List Row) : Prop := ∀ f ∈ op, f.1 = 40 → f = (40, [])
def md (told : Option Nat) : Md := if told.isSome then .D else .T
theorem run_acc (tx : List Nat) : ∀ (n : Nat) (q : PSt), tx.length + 1 ≤ n + q.pos → q.pos ≤ tx.length → OpOk q.op → (endT (runT tx n q)).isSome = decide (dR plS (md q.told, stk q.op) (tx.drop q.pos) = (.D, []))
  | 0, q, h1, h2, _ => absurd h1 (by omega)
  | n + 1, ⟨told, op, pos, L⟩, h1, h2, h3 => by
    have h1 : tx.length + 1 ≤ n + 1 + pos := h1
    have h2 : pos ≤ tx.length := h2
    have h3 : OpOk op := h3
    show (endT (runT tx (n + 1) ⟨told, op, pos, L⟩)).isSome = decide (dR plS (md told, stk op) (tx.drop pos) = (.D, []))
    by_cases hp : pos < tx.length
    · have hd : tx.drop pos = tx[pos] :: tx.drop (pos + 1) := List.drop_eq_getElem_cons hp
      have hg : tx.getD pos 0 = tx[pos] := by rw [List.getD_eq_getElem?_getD, List.getElem?_eq_getElem hp]; rfl
      generalize hc : tx[pos] = c at hd hg
      have er : runT tx (n + 1) ⟨told, op, pos, L⟩ = (match stepT tx ⟨told, op, pos, L⟩ with
        | some q' => runT tx n q'
        | none => none) := by
        exact if_pos hp
      rw [er, hd, dR_cons]
      cases told with
      | none =>
        have es : stepT tx ⟨none, op, pos, L⟩ = if c ∈ plainS then some ⟨some (L.idxOf (c, [])), op, pos + 1, numL L (c, [])⟩
            else if c ∈ deedS ∧ (tx.drop (pos + 1)).take 1 = [40] then some ⟨none, (c, []) :: op, pos + 2, L⟩
            else if c = 40 then some ⟨none, (40, []) :: op, pos + 1, L⟩ else none := by
          show (if tx.getD pos 0 ∈ plainS then _ else _) = _
          rw [hg]
        have ed : d1 plS (md none, stk op) c = if c ∈ plS then (.D, stk op) else if c ∈ dS then (.P, stk op) else if c = 40 then (.T, true :: stk op) else (.F, []) := rfl
        rw [es, ed]
        by_cases c1 : c ∈ plS
        · rw [if_pos (show c ∈ plainS from c1), if_pos c1]
          exact run_acc tx n ⟨some _, op, pos + 1, _⟩ (by show _ ≤ n + (pos + 1); omega) hp h3
        · rw [if_neg (show c ∉ plainS from c1), if_neg c1]
          by_cases c2 : c ∈ dS
          · rw [if_pos c2]
            cases h4 : tx.drop (pos + 1) with
            | nil =>
              have c4 : c ≠ 40 := fun z => by subst z; revert c2; decide
              rw [if_neg (by simp), if_neg c4]
              rfl
            | cons d r =>
              rw [dR_cons]
              have e2 : d1 plS (.P, stk op) d = if d = 40 then (.T, false :: stk op) else (.F, []) := rfl
              rw [e2]
              by_cases d4 : d = 40
              · subst d4
                have hp1 : pos + 1 < tx.length := by
                  have := congrArg List.length h4
                  rw [List.length_drop] at this
                  simp at this
                  omega
                have hr : r = tx.drop (pos + 2) := by
                  have : tx.drop (pos + 2) = (tx.drop (pos + 1)).drop 1 := by rw [List.drop_drop]
                  rw [this, h4]
                  rfl
                have c40 : c ≠ 40 := fun z => by subst z; revert c2; decide
                rw [if_pos ⟨c2, rfl⟩, if_pos rfl, hr]
                have es2 : stk ((c, []) :: op) = false :: stk op := by
                  show decide (c = 40) :: stk op = _
                  rw [decide_eq_false c40]
                rw [← es2]
                exact run_acc tx n ⟨none, (c, []) :: op, pos + 2, L⟩ (by show _ ≤ n + (pos + 2); omega) (by show pos + 2 ≤ _; omega) (fun f hf => by
                  rcases List.mem_cons.mp hf with rfl | hf
                  · exact fun z => absurd z c40
                  · exact h3 f hf)
              · have c4 : c ≠ 40 := fun z => by subst z; revert c2; decide
                rw [if_neg (fun z => d4 (by simpa using z.2)), if_neg c4, if_neg d4]
                show false = _
                exact (decide_eq_false F_no).symm
          · rw [if_neg (fun z => c2 z.1), if_neg c2]
            by_cases c4 : c = 40
            · rw [if_pos c4, if_pos c4]
              exact run_acc tx n ⟨none, (40, []) :: op, pos + 1, L⟩ (by show _ ≤ n + (pos + 1); omega) hp (fun f hf => by
                rcases List.mem_cons.mp hf with rfl | hf
                · exact fun _ => rfl
                · exact h3 f hf)
            · rw [if_neg c4, if_neg c4]
              exact (decide_eq_false F_no).symm
      | some r =>
        cases op with
        | nil =>
          have e2 : d1 plS (md (some r), stk []) c = (.F, []) := rfl
          rw [e2]
          exact (decide_eq_false F_no).symm
        | cons f op =>
          have es : stepT tx ⟨some r, f :: op, pos, L⟩ = if c = 41 ∧ f.1 ≠ 40 then some ⟨some (L.idxOf (f.1, f.2 ++ [r])), op, pos + 1, numL L (f.1, f.2 ++ [r])⟩
              else if f = (40, []) ∧ ((tx.drop pos).take 3 = [32, 38, 32] ∨ (tx.drop pos).take 3 = [32, 124, 32]) then some ⟨none, (tx.getD (pos + 1) 0, [r]) :: op, pos + 3, L⟩ else none := by
            show (if tx.getD pos 0 = 41 ∧ f.1 ≠ 40 then _ else _) = _
            rw [hg]
          rw [es]
          have ho : OpOk op := fun g hg' => h3 g (List.mem_cons_of_mem _ hg')
          by_cases f4 : f.1 = 40
          · have ff : f = (40, []) := h3 f (by simp) f4
            subst ff
            have e2 : d1 plS (md (some r), stk ((40, []) :: op)) c = if c = 32 then (.S, true :: stk op) else (.F, []) := rfl
            rw [e2, if_neg (fun z => z.2 rfl), hd]
            by_cases c3 : c = 32
            · subst c3
              rw [if_pos rfl]
              cases h4 : tx.drop (pos + 1) with
              | nil =>
                rw [if_neg (by simp)]
                rfl
              | cons o r2 =>
                rw [dR_cons]
                have e3 : d1 plS (.S, true :: stk op) o = if o = 38 ∨ o = 124 then (.Q, true :: stk op) else (.F, []) := rfl
                rw [e3]
                by_cases oo : o = 38 ∨ o = 124
                · rw [if_pos oo]
                  cases r2 with
                  | nil =>
                    rw [if_neg (by simp)]
                    rfl
                  | cons s r3 =>
                    rw [dR_cons]
                    have e4 : d1 plS (.Q, true :: stk op) s = if s = 32 then (.T, false :: stk op) else (.F, []) := rfl
                    rw [e4]
                    by_cases s3 : s = 32
                    · subst s3
                      have hl : pos + 2 < tx.length := by
                        have := congrArg List.length h4
                        rw [List.length_drop] at this
                        simp only [List.length_cons] at this
                        omega
                      have hr : r3 = tx.drop (pos + 3) := by
                        have : tx.drop (pos + 3) = (tx.drop (pos + 1)).drop 2 := by rw [List.drop_drop]
                        rw [this, h4]
                        rfl
                      have ho2 : tx.getD (pos + 1) 0 = o := by
                        have : tx[pos + 1]? = (tx.drop (pos + 1))[0]? := by rw [List.getElem?_drop]
                        rw [List.getD_eq_getElem?_getD, this, h4]
                        rfl
                      have o40 : o ≠ 40 := by rcases oo with rfl | rfl <;> decide
                      rw [if_pos ⟨rfl, by rcases oo with rfl | rfl <;> simp⟩, if_pos rfl, hr, ho2]
                      have es2 : stk ((o, [r]) :: op) = false :: stk op := by
                        show decide (o = 40) :: stk op = _
                        rw [decide_eq_false o40]
                      rw [← es2]
                      exact run_acc tx n ⟨none, (o, [r]) :: op, pos + 3, L⟩ (by show _ ≤ n + (pos + 3); omega) (by show pos + 3 ≤ _; omega) (fun g hg' => by
                        rcases List.mem_cons.mp hg' with rfl | hg'
                        · exact fun z => absurd z o40
                        · exact ho g hg')
                    · rw [if_neg (fun z => s3 (by rcases z.2 with z | z <;> (simp at z; omega))), if_neg s3]
                      exact (decide_eq_false F_no).symm
                · rw [if_neg oo, if_neg (fun z => oo (by rcases z.2 with z | z <;> (simp at z; omega)))]
                  exact (decide_eq_false F_no).symm
            · rw [if_neg c3, if_neg (fun z => c3 (by rcases z.2 with z | z <;> (simp at z; omega)))]
              exact (decide_eq_false F_no).symm
          · have es2 : stk (f :: op) = false :: stk op := by
              show decide (f.1 = 40) :: stk op = _
              rw [decide_eq_false f4]
            rw [es2]
            have e2 : d1 plS (md (some r), false :: stk op) c = if c = 41 then (.D, stk op) else (.F, []) := rfl
            rw [e2]
            by_cases c5 : c = 41
            · rw [if_pos ⟨c5, f4⟩, if_pos c5]
              exact run_acc tx n ⟨some _, op, pos + 1, _⟩ (by show _ ≤ n + (pos + 1); omega) hp ho
            · rw [if_neg (fun z => c5 z.1), if_neg (fun z => f4 (by rw [z.1])), if_neg c5]
              exact (decide_eq_false F_no).symm
    · have hd : tx.drop pos = [] := List.drop_eq_nil_of_le (by omega)
      have er : runT tx (n + 1) ⟨told, op, pos, L⟩ = some ⟨told, op, pos, L⟩ := by
        show (if pos < tx.length then _ else _) = _
        rw [if_neg hp]
      rw [er, hd]
      cases told with
      | none => rfl
      | some r =>
        cases op with
        | nil => rfl
        | cons f op => rfl
theorem read_acc {tx : List Nat} (hl : tx.length ≤ 900) : (readT tx []).isSome = acc plS tx := by
  have h := run_acc tx 1000 ⟨none, [], 0, []⟩ (by show _ ≤ 1000 + 0; omega) (Nat.zero_le _) (fun f hf => by cases hf)
  exact h
end Pl

namespace Law
open PySem PySem.StrLaws L2 Mir Pl
theorem tryn3 {T : Sb} {b : MS} {hs : List (PySem.Str × Option Nat × MX)} {ρ ρ1 : En} {S S1 : Sto} (h : b ρ S = .ok (.nx ρ1) S1) : sTry T b hs ρ S = .ok (.nx ρ1) S1 := by
  unfold sTry
  rw [h]
theorem tryx3 {T : Sb} {b : MS} {hs : List (PySem.Str × Option Nat × MX)} {ρ ρ1 : En} {S S1 : Sto} {c : PySem.Str} {x : XD} {o : RF} (h : b ρ S = .ok (.xc ρ1 c x) S1) (hr : tryGo T hs ρ1 c x S1 = o) : sTry T b hs ρ S = o := by
  unfold sTry
  rw [h]
  exact hr
theorem told_no3 {x : P} {t : List Nat} {S : Sto} (hm : mkO false "Term" m_Term___init__ [.p x] S = .exc "InvalidText" (some (["given"], [x])) S) (hs : SV x t) : m__law_told [.p x] S = .ok (.p (.bl false)) S := by
  obtain ⟨s, h1, rfl, h2, h3⟩ := hs
  unfold m__law_told b__law_told
  refine ws_mkFe (ρ := [some (.p x), none, none]) rfl rfl ?_
  have b1 : sAsg (eMake false "Term" m_Term___init__ (aCons (eVar 0) aNil)) (gNm 2) [some (.p x), none, none] S = .ok (.xc [some (.p x), none, none] "InvalidText" (some (["given"], [x]))) S := by
    unfold sAsg
    have : eMake false "Term" m_Term___init__ (aCons (eVar 0) aNil) [some (.p x), none, none] S = .exc "InvalidText" (some (["given"], [x])) S := by
      rw [eMake_eq, show aCons (eVar 0) aNil [some (.p x), none, none] S = .ok [.p x] S from rfl, bind_ok, hm]
    rw [this]
    rfl
  have pe : pEq (.str (txL s)) (.str (txL s)) = some (.bl true) := by
    rw [op_eqS h2 h2, beq_self_eq_true]
  refine ws_of (ev_seq (tryx3 b1 (try_yes rfl rfl (ev_ret (exc_if (ev_tand (q := true) (ev_tval ev_xi) (andK_t (ev_tval (ev_bin (ev_repr (ev_xf rfl) (rd_p _ _) h1 h3) (ev_repr (ev_var rfl) (rd_p _ _) h1 h3) (rd_p _ _) (rd_p _ _) pe)))) (ifK_t ev_c))))) thn_r) end_self
theorem told_yes3 {x : List Nat} (ha : asc x = true) (hm : ∀ S, mkO false "Term" m_Term___init__ [.p (.str x)] S = .ok (.p (trmP x)) S) (S : Sto) : m__law_told [.p (.str x)] S = .ok (.p (.bl true)) S := by
  unfold m__law_told b__law_told
  refine ws_mkFe (ρ := [some (.p (.str x)), none, none]) rfl rfl ?_
  refine ws_seq (tryn3 (ev_asg (ev_make (ev_acons (ev_var rfl) ev_anil) (hm S)) (ev_gnm rfl))) ?_
  have pe : pEq (.str x) (.str x) = some (.bl true) := by rw [op_eqS ha ha, beq_self_eq_true]
  exact ws_of (ev_ret (ev_bin (ev_prop (ev_var rfl) rfl (tmtext_ok x S)) (ev_var rfl) (rd_p _ _) (rd_p _ _) pe)) end_self
theorem make_no3 {x : P} (ht : ∀ S, m_is_text [.p x] S = .ok (.p (.bl false)) S) (S : Sto) : mkO false "Term" m_Term___init__ [.p x] S = .exc "InvalidText" (some (["given"], [x])) S := by
  have body : b_Term___init__ [some (.c S.length), some (.p x)] (S ++ [Cell.ins "Term" [] []]) = .ok (.xc [some (.c S.length), some (.p x)] "InvalidText" (some (["given"], [x]))) (S ++ [Cell.ins "Term" [] []]) := by
    unfold b_Term___init__
    exact exs_seq (ev_sif (q := true) (ev_tnot (ev_tval (ev_fn (ev_acons (ev_var rfl) ev_anil) (ht _))) rfl) (ifK_t (exs_raise (ev_acons (ev_var rfl) ev_anil) fr_p)))
  unfold mkO m_Term___init__
  have e := ex_mkF (n := 2) (k := 0) (body := b_Term___init__) (ds := [.c S.length, .p x]) (S := S ++ [Cell.ins "Term" [] []]) rfl rfl ⟨_, body⟩ (take_len rfl)
  rw [e]
  show Res.exc _ _ ((S ++ [Cell.ins "Term" [] []]).take S.length) = _
  rw [List.take_left']
  rfl
theorem text_odd3 {x : P} (hx : okV x = true) (hs : isStrP x = false) (S : Sto) : m_is_text [.p x] S = .ok (.p (.bl false)) S := by
  obtain ⟨T, t1, t2⟩ := isi_str hx S
  rw [hs] at t2
  unfold m_is_text b_is_text
  refine ws_mkFe (ρ := [some (.p x)]) rfl rfl ?_
  exact ws_of (ev_ret (ev_eand (q := false) (ev_isi (ev_var rfl) ev_c t1 t2) rfl)) end_self
theorem text_long3 {u : List Nat} (hl : 300 < u.length) (h2 : u.length ≤ 100000) (S : Sto) : m_is_text [.p (.str u)] S = .ok (.p (.bl false)) S := by
  unfold m_is_text b_is_text
  refine ws_mkFe (ρ := [some (.p (.str u))]) rfl rfl ?_
  have l1 : eBin bLe (eCall pLen (aCons (eVar 0) aNil)) (eC (.int 300)) [some (.p (.str u))] S = .ok (.p (.bl false)) S := by
    have := ev_bin (ρ := [some (.p (.str u))]) (S := S) (a := eCall pLen (aCons (eVar 0) aNil)) (b := eC (.int 300)) (f := bLe) (ev_call (ev_acons (ev_var rfl) ev_anil) (rds_c rfl (rds_nil _)) (op_lenS (x := u) (by omega))) ev_c rfl rfl (op_leN (b := 300))
    rw [decide_eq_false (by omega)] at this
    exact this
  exact ws_of (ev_ret (ev_eand (q := true) (ev_isi (ev_var rfl) ev_c rfl rfl) (eandK_t (ev_eand (q := false) l1 rfl)))) end_self
def isT (u : List Nat) : Bool := decide (u.length ≤ 300) && acc plS u
theorem told_text {u : List Nat} (ha : asc u = true) (hl : u.length ≤ 9000) (S : Sto) : m__law_told [.p (.str u)] S = .ok (.p (.bl (isT u))) S := by
  have sv : SV (.str u) (reprP (.str u)) := show_plain ha rfl rfl (by show 10 * u.length + 2 ≤ 100000; omega)
  have ha' : ∀ c ∈ u, c < 128 := fun c hc => of_decide_eq_true (List.all_eq_true.mp ha c hc)
  unfold isT
  by_cases h3 : u.length ≤ 300
  · rw [decide_eq_true h3, Bool.true_and]
    have hr := read_acc (tx := u) (by omega)
    cases hb : acc plS u with
    | true => exact told_yes3 ha (fun S => make_term h3 ha' (by rw [hr, hb]) S) S
    | false => exact told_no3 (make_no3 (fun S => by rw [is_text_ok h3 ha' S, hr, hb]) S) sv
  · rw [decide_eq_false h3, Bool.false_and]
    exact told_no3 (make_no3 (fun S => text_long3 (by omega) (by omega) S) S) sv
abbrev ET (u : List Nat) (x1 x2 x3 x4 : Option Vl) : En := [some (.p (.str u)), x1, x2, x3, x4]
theorem repl1_len {p u : List Nat} (hp : 2 ≤ p.length) : (replL p [88] u).length ≤ u.length := by
  rcases repl_len hp u.length u (Nat.le_refl _) with h | h
  · omega
  · rw [h.1]; exact Nat.le_refl _
theorem lit1 {z : List Nat} {ia ik : Nat} {y x : List Nat} {ys : List (List Nat)} {ρ : En} {o : Option En} (hx : ρ[ik]? = some (some (.p (.str x)))) (hy : 1 ≤ y.length) (hl : x.length + (x.length + 1) * z.length ≤ 16777216) (h : litGo z ia ik ys ((ρ.set ia (some (.p (.str y)))).set ik (some (.p (.str (StrLaws.replL y z x))))) = o) : litGo z ia ik (y :: ys) ρ = o := by
  show (match ρ[ik]? with
    | some (some (.p (.str x))) => if 1 ≤ y.length ∧ x.length + (x.length + 1) * z.length ≤ 16777216 then litGo z ia ik ys ((ρ.set ia (some (.p (.str y)))).set ik (some (.p (.str (StrLaws.replL y z x))))) else none
    | _ => none) = _
  rw [hx]
  dsimp only
  rw [if_pos ⟨hy, hl⟩, h]
theorem map_len (u : List Nat) {c : Nat} : (replL [c] [88] u).length = u.length := by rw [repl_map, List.length_map]
theorem e_lets {u : List Nat} (hl : u.length ≤ 9000) (x1 x2 x3 x4 : Option Vl) (S : Sto) : sForLit [[120], [121], [122], [48], [49]] [88] 1 0 (ET u x1 x2 x3 x4) S = .ok (.nx (ET (rwL u) (some (.p (.str [49]))) x2 x3 x4)) S := by
  have e : litGo [88] 1 0 [[120], [121], [122], [48], [49]] (ET u x1 x2 x3 x4) = some (ET (rwL u) (some (.p (.str [49]))) x2 x3 x4) := by
    refine lit1 rfl (by decide) (by simp; omega) ?_
    refine lit1 rfl (by decide) (by simp [map_len]; omega) ?_
    refine lit1 rfl (by decide) (by simp [map_len]; omega) ?_
    refine lit1 rfl (by decide) (by simp [map_len]; omega) ?_
    refine lit1 rfl (by decide) (by simp [map_len]; omega) ?_
    rfl
  unfold sForLit
  rw [e]
theorem e_pats {u v : List Nat} (hl : v.length ≤ 9000) (x1 x2 x4 : Option Vl) (S : Sto) : sForLit [[99, 40, 88, 41], [105, 40, 88, 41], [110, 40, 88, 41], [40, 88, 32, 38, 32, 88, 41], [40, 88, 32, 124, 32, 88, 41]] [88] 4 3 (ET u x1 x2 (some (.p (.str v))) x4) S = .ok (.nx (ET u x1 x2 (some (.p (.str (rw5 v)))) (some (.p (.str [40, 88, 32, 124, 32, 88, 41]))))) S := by
  have l1 := repl1_len (p := [99, 40, 88, 41]) (u := v) (by decide)
  have l2 := repl1_len (p := [105, 40, 88, 41]) (u := replL [99, 40, 88, 41] [88] v) (by decide)
  have l3 := repl1_len (p := [110, 40, 88, 41]) (u := replL [105, 40, 88, 41] [88] (replL [99, 40, 88, 41] [88] v)) (by decide)
  have l4 := repl1_len (p := [40, 88, 32, 38, 32, 88, 41]) (u := replL [110, 40, 88, 41] [88] (replL [105, 40, 88, 41] [88] (replL [99, 40, 88, 41] [88] v))) (by decide)
  have e : litGo [88] 4 3 [[99, 40, 88, 41], [105, 40, 88, 41], [110, 40, 88, 41], [40, 88, 32, 38, 32, 88, 41], [40, 88, 32, 124, 32, 88, 41]] (ET u x1 x2 (some (.p (.str v))) x4) = some (ET u x1 x2 (some (.p (.str (rw5 v)))) (some (.p (.str [40, 88, 32, 124, 32, 88, 41])))) := by
    refine lit1 rfl (by decide) (by simp only [List.length_cons, List.length_nil]; omega) ?_
    refine lit1 rfl (by decide) (by simp only [List.length_cons, List.length_nil]; omega) ?_
    refine lit1 rfl (by decide) (by simp only [List.length_cons, List.length_nil]; omega) ?_
    refine lit1 rfl (by decide) (by simp only [List.length_cons, List.length_nil]; omega) ?_
    refine lit1 rfl (by decide) (by simp only [List.length_cons, List.length_nil]; omega) ?_
    rfl
  unfold sForLit
  rw [e]
theorem asc_repl {p : List Nat} (hp : p ≠ []) : ∀ (n : Nat) (u : List Nat), u.length ≤ n → asc u = true → asc (replL p [88] u) = true
  | _, [], _, _ => by rw [replL_nil]; rfl
  | 0, c :: u, h, _ => by simp at h
  | n + 1, c :: u, hl, ha => by
    have hl : u.length ≤ n := by simpa using hl
    by_cases e : (c :: u).take p.length = p
    · rw [replL_hit hp e]
      have h0 : 0 < p.length := List.length_pos_iff.mpr hp
      have := asc_repl hp n ((c :: u).drop p.length) (by rw [List.length_drop]; simp only [List.length_cons]; omega) (List.all_eq_true.mpr fun d hd => List.all_eq_true.mp ha d (List.mem_of_mem_drop hd))
      show ([88] ++ replL p [88] ((c :: u).drop p.length)).all _ = true
      rw [List.all_append]
      unfold asc at this
      rw [this]
      rfl
    · rw [replL_miss e]
      have hc := List.all_eq_true.mp ha c (by simp)
      have := asc_repl hp n u hl (List.all_eq_true.mpr fun d hd => List.all_eq_true.mp ha d (List.mem_cons_of_mem _ hd))
      unfold asc at this ⊢
      rw [List.all_cons, hc, this]
      rfl
theorem asc_rw5 {u : List Nat} (h : asc u = true) : asc (rw5 u) = true := by
  unfold rw5 pats
  simp only [List.foldl_cons, List.foldl_nil]
  exact asc_repl (by simp) _ _ (Nat.le_refl _) (asc_repl (by simp) _ _ (Nat.le_refl _) (asc_repl (by simp) _ _ (Nat.le_refl _) (asc_repl (by simp) _ _ (Nat.le_refl _) (asc_repl (by simp) _ _ (Nat.le_refl _) h))))
theorem asc_toX {u : List Nat} (h : asc u = true) : asc (u.map toX) = true := List.all_eq_true.mpr fun d hd => by
  obtain ⟨c, hc, rfl⟩ := List.mem_map.mp hd
  have := List.all_eq_true.mp h c hc
  unfold toX
  split
  · rfl
  · exact this
theorem rw5_no {u : List Nat} (h : ∀ c ∈ u, c ∉ plS) : ∀ c ∈ rw5 u, c ∉ plS := by
  have one : ∀ (p : List Nat), p ≠ [] → ∀ (n : Nat) (u : List Nat), u.length ≤ n → (∀ c ∈ u, c ∉ plS) → ∀ c ∈ replL p [88] u, c ∉ plS := by
    intro p hp n
    induction n with
    | zero =>
      intro u hl hu
      cases u with
      | nil => rw [replL_nil]; exact hu
      | cons c u => simp at hl
    | succ n ih =>
      intro u hl hu
      cases u with
      | nil => rw [replL_nil]; exact hu
      | cons c u =>
        have hl : u.length ≤ n := by simpa using hl
        by_cases e : (c :: u).take p.length = p
        · rw [replL_hit hp e]
          have h0 : 0 < p.length := List.length_pos_iff.mpr hp
          intro d hd
          rcases List.mem_append.mp hd with hd | hd
          · rw [List.mem_singleton.mp hd]; decide
          · exact ih _ (by rw [List.length_drop]; simp only [List.length_cons]; omega) (fun x hx => hu x (List.mem_of_mem_drop hx)) d hd
        · rw [replL_miss e]
          intro d hd
          rcases List.mem_cons.mp hd with rfl | hd
          · exact hu _ (by simp)
          · exact ih u hl (fun x hx => hu x (List.mem_cons_of_mem _ hx)) d hd
  unfold rw5 pats
  simp only [List.foldl_cons, List.foldl_nil]
  exact one _ (by simp) _ _ (Nat.le_refl _) (one _ (by simp) _ _ (Nat.le_refl _) (one _ (by simp) _ _ (Nat.le_refl _) (one _ (by simp) _ _ (Nat.le_refl _) (one _ (by simp) _ _ (Nat.le_refl _) h))))
end Law

namespace Law
open PySem PySem.StrLaws L2 Mir Pl
theorem ev_seqN {s s' : MS} {ρ ρ1 : En} {S S1 : Sto} {o : RF} (h1 : s ρ S = .ok (.nx ρ1) S1) (h2 : s' ρ1 S1 = o) : sSeq s s' ρ S = o := ev_seq h1 h2
@[reducible] noncomputable def bLp : MS := (sSeq (sAsg (eVar 0) (gNm 3)) (sSeq (sForLit [[99, 40, 88, 41], [105, 40, 88, 41], [110, 40, 88, 41], [40, 88, 32, 38, 32, 88, 41], [40, 88, 32, 124, 32, 88, 41]] [88] 4 3) (sSeq (sIf (tVal (eBin pEq (eVar 3) (eVar 0))) sBreak sPass) (sAsg (eVar 3) (gNm 0)))))
theorem loop3 (S : Sto) : ∀ (xs : List P) (v : List Nat) (x1 x2 x3 x4 : Option Vl), asc v = true → v.length ≤ 9000 → (∀ c ∈ v, c ∉ plS) → v.length < xs.length →
    ∃ w x2' x3' x4', forGo (gNm 2) bLp xs (ET v x1 x2 x3 x4) S = .ok (.nx (ET w x1 x2' x3' x4')) S ∧ rw5 w = w ∧ asc w = true ∧ (∀ c ∈ w, c ∉ plS) ∧ ∀ q, dR lX q w = dR lX q v
  | [], v, _, _, _, _, _, _, _, h => absurd h (by simp)
  | x :: xs, v, x1, x2, x3, x4, ha, hl, hn, h => by
    have hg : gNm 2 (.p x) (ET v x1 x2 x3 x4) S = .ok (ET v x1 (some (.p x)) x3 x4) S := ev_gnm rfl
    have b1 : ∀ {o : RF}, sSeq (sIf (tVal (eBin pEq (eVar 3) (eVar 0))) sBreak sPass) (sAsg (eVar 3) (gNm 0)) (ET v x1 (some (.p x)) (some (.p (.str (rw5 v)))) (some (.p (.str [40, 88, 32, 124, 32, 88, 41])))) S = o → bLp (ET v x1 (some (.p x)) x3 x4) S = o := fun e =>
      ev_seqN (ev_asg (ev_var rfl) (ev_gnm rfl)) (ev_seqN (e_pats hl x1 (some (.p x)) x4 S) e)
    by_cases e : rw5 v = v
    · refine ⟨v, some (.p x), some (.p (.str (rw5 v))), some (.p (.str [40, 88, 32, 124, 32, 88, 41])), ?_, e, ha, hn, fun _ => rfl⟩
      have pe : pEq (.str (rw5 v)) (.str v) = some (.bl true) := by rw [op_eqS (asc_rw5 ha) ha, e, beq_self_eq_true]
      have hb := b1 (o := .ok (.bk (ET v x1 (some (.p x)) (some (.p (.str (rw5 v)))) (some (.p (.str [40, 88, 32, 124, 32, 88, 41]))))) S) (ev_seq (f := .bk _) (ev_sif (q := true) (ev_tval (ev_bin (ev_var rfl) (ev_var rfl) (rd_p _ _) (rd_p _ _) pe)) (ifK_t rfl)) rfl)
      rw [forGo_cons, hg, nox_ok, go_ok, hb]
    · have hlt : (rw5 v).length < v.length := by
        rcases rw5_len v with h1 | h1
        · exact h1
        · exact absurd h1.1 e
      have pe : pEq (.str (rw5 v)) (.str v) = some (.bl false) := by
        rw [op_eqS (asc_rw5 ha) ha]
        congr 2
        exact beq_eq_false_iff_ne.mpr e
      have hb := b1 (o := .ok (.nx (ET (rw5 v) x1 (some (.p x)) (some (.p (.str (rw5 v)))) (some (.p (.str [40, 88, 32, 124, 32, 88, 41]))))) S) (ev_seqN (ev_sif (q := false) (ev_tval (ev_bin (ev_var rfl) (ev_var rfl) (rd_p _ _) (rd_p _ _) pe)) (ifK_f ev_pass)) (ev_asg (ev_var rfl) (ev_gnm rfl)))
      have hx : (x :: xs).length = xs.length + 1 := rfl
      obtain ⟨w, a, b, c, e1, e2, e3, e4, e5⟩ := loop3 S xs (rw5 v) x1 (some (.p x)) (some (.p (.str (rw5 v)))) (some (.p (.str [40, 88, 32, 124, 32, 88, 41]))) (asc_rw5 ha) (by omega) (rw5_no hn) (by omega)
      refine ⟨w, a, b, c, ?_, e2, e3, e4, fun q => (e5 q).trans (rw5_run v q)⟩
      rw [forGo_cons, hg, nox_ok, go_ok, hb]
      exact e1
theorem occ1' (c : Nat) (tx : List Nat) : occB [c] tx = tx.contains c := by
  unfold occB
  have := PySem.StrLaws.found_one (strOf tx) c
  rw [show strOf [c] = ⟨#[c]⟩ from rfl, this, Bool.eq_iff_iff, decide_eq_true_iff, List.contains_iff_mem]
  show c ∈ (strOf tx).cps.toList ↔ _
  rw [show (strOf tx).cps.toList = tx by unfold strOf; simp]
theorem in1' (c : Nat) (tx : List Nat) : pIn2 (.str [c]) (.str tx) = some (.bl (tx.contains c)) := by
  refine pIn2_of ?_
  show some (P.bl (occB [c] tx)) = _
  rw [occ1']
theorem is_term_ok {u : List Nat} (ha : asc u = true) (hl : u.length ≤ 9000) (S : Sto) : m__law_is_term [.p (.str u)] S = .ok (.p (.bl (isT u))) S := by
  unfold m__law_is_term b__law_is_term
  refine ws_mkFe (ρ := ET u none none none none) rfl rfl ?_
  have t1 : tVal (eBin (pIB fun i j => decide (j < i)) (eCall pLen (aCons (eVar 0) aNil)) (eC (.int 300))) (ET u none none none none) S = .ok (decide (300 < u.length)) S :=
    ev_tval (ev_bin (ev_call (ev_acons (ev_var rfl) ev_anil) (rds_c (rd_p _ _) (rds_nil _)) (op_lenS (x := u) (by omega))) ev_c (rd_p _ _) (rd_p _ _) (by
      show some (P.bl (decide ((300 : Int) < (u.length : Int)))) = _
      congr 2
      exact decide_eq_decide.mpr (by omega)))
  have t2 : tVal (eBin pIn2 (eC (.str [88])) (eVar 0)) (ET u none none none none) S = .ok (u.contains 88) S := ev_tval (ev_bin ev_c (ev_var rfl) (rd_p _ _) (rd_p _ _) (in1' 88 u))
  by_cases h3 : 300 < u.length
  · rw [decide_eq_true h3] at t1
    have : isT u = false := by unfold isT; rw [decide_eq_false (by omega)]; rfl
    rw [this]
    exact ws_of (ev_seq (ev_sif (q := true) (ev_tor (q := true) t1 rfl) (ifK_t (ev_ret ev_c))) thn_r) end_self
  · rw [decide_eq_false h3] at t1
    by_cases hX : 88 ∈ u
    · rw [List.contains_iff_mem.mpr hX] at t2
      have : isT u = false := by unfold isT; rw [acc_X hX, Bool.and_false]
      rw [this]
      exact ws_of (ev_seq (ev_sif (q := true) (ev_tor (q := false) t1 (orK_f t2)) (ifK_t (ev_ret ev_c))) thn_r) end_self
    · have hc : u.contains 88 = false := by
        cases z : u.contains 88 with
        | false => rfl
        | true => exact absurd (List.contains_iff_mem.mp z) hX
      rw [hc] at t2
      refine ws_seq (ev_sif (q := false) (ev_tor (q := false) t1 (orK_f t2)) (ifK_f ev_pass)) ?_
      refine ws_seq (e_lets hl none none none none S) ?_
      have hv : rwL u = u.map toX := rwL_map u
      have hvl : (rwL u).length = u.length := by rw [hv, List.length_map]
      obtain ⟨w, a, b, c, e1, e2, e3, e4, e5⟩ := loop3 S ((List.range 310).map fun (k : Nat) => P.int (k : Int)) (rwL u) (some (.p (.str [49]))) none none none (by rw [hv]; exact asc_toX ha) (by omega) (fun c hc => toX_no (by rw [← hv]; exact hc)) (by rw [List.length_map, List.length_range]; omega)
      refine ws_seq (ev_forx (ev_range1 (n := 310) ev_c (by decide)) e1) ?_
      have lr := law_reads hX e5 e2 e4
      have : isT u = (w == [88]) := by unfold isT; rw [decide_eq_true (by omega), Bool.true_and, lr]
      rw [this]
      exact ws_of (ev_ret (ev_bin (ev_var rfl) ev_c (rd_p _ _) (rd_p _ _) (op_eqS e3 (by decide)))) end_self
theorem cut_pre3 {A : Type} (xs : List A) (k : Nat) : cutP xs none (some (k : Int)) = xs.take k := by
  unfold cutP
  rw [HT.sIx_nat, HT.sIx_none, List.drop_zero, Nat.sub_zero]
  by_cases h : k ≤ xs.length
  · rw [Nat.min_eq_left h]
  · rw [Nat.min_eq_right (by omega), List.take_of_length_le (Nat.le_refl _), List.take_of_length_le (by omega)]
theorem cut_suf3 {A : Type} (xs : List A) (k : Nat) : cutP xs (some (k : Int)) none = xs.drop k := by
  unfold cutP
  rw [HT.sIx_nat, HT.sIx_none]
  by_cases h : k ≤ xs.length
  · rw [Nat.min_eq_left h, List.take_of_length_le (by rw [List.length_drop]; exact Nat.le_refl _)]
  · rw [Nat.min_eq_right (by omega), List.drop_eq_nil_of_le (Nat.le_refl _), List.drop_eq_nil_of_le (by omega)]
    simp
theorem sl_pre3 {x : List Nat} (h : x.length ≤ 100000) (i : Nat) : pSl none (some (i : Int)) (.str x) = some (.str (x.take i)) := by
  show (if x.length ≤ 100000 then some (P.str (cutP x none (some (i : Int)))) else none) = _
  rw [if_pos h, cut_pre3]
theorem sl_suf3 {x : List Nat} (h : x.length ≤ 100000) (i : Nat) : pSl (some (i : Int)) none (.str x) = some (.str (x.drop i)) := by
  show (if x.length ≤ 100000 then some (P.str (cutP x (some (i : Int)) none)) else none) = _
  rw [if_pos h, cut_suf3]
theorem asc_app {x y : List Nat} (h : asc x = true) (h' : asc y = true) : asc (x ++ y) = true := by
  unfold asc at *
  rw [List.all_append, h, h']
  rfl
theorem asc_take {x : List Nat} (h : asc x = true) (i : Nat) : asc (x.take i) = true := List.all_eq_true.mpr fun c hc => List.all_eq_true.mp h c (List.mem_of_mem_take hc)
theorem asc_drop {x : List Nat} (h : asc x = true) (i : Nat) : asc (x.drop i) = true := List.all_eq_true.mpr fun c hc => List.all_eq_true.mp h c (List.mem_of_mem_drop hc)
theorem asc_rev {x : List Nat} (h : asc x = true) : asc x.reverse = true := List.all_eq_true.mpr fun c hc => List.all_eq_true.mp h c (List.mem_reverse.mp hc)
structure Tx3 (n : Nat) (x : List Nat) : Prop where
  a : asc x = true
  l : x.length ≤ n
theorem Tx3.app {n m : Nat} {x y : List Nat} (h : Tx3 n x) (h' : Tx3 m y) : Tx3 (n + m) (x ++ y) := ⟨asc_app h.a h'.a, by have := h.l; have := h'.l; rw [List.length_append]; omega⟩
theorem Tx3.mono {n m : Nat} {x : List Nat} (h : Tx3 n x) (hm : n ≤ m) : Tx3 m x := ⟨h.a, Nat.le_trans h.l hm⟩
theorem Tx3.of {x : List Nat} (h : asc x = true) : Tx3 x.length x := ⟨h, Nat.le_refl _⟩
theorem pickS {S : Sto} {k : Nat} {l : List (List Nat)} (hu : Urn S k) (h0 : l ≠ []) (hl : l.length < 1000) : ∃ s S', s ∈ l ∧ m__law_pick [.c k, .p (.lst (l.map P.str))] S = .ok (.p (.str s)) S' ∧ Ux k S S' := by
  obtain ⟨x, S', e, hx, u⟩ := pick_ok (xs := l.map P.str) hu (by simpa using h0) (by rw [List.length_map]; omega)
  obtain ⟨s, hs, rfl⟩ := List.mem_map.mp hx
  exact ⟨s, S', hs, e, u⟩
def SG3 : List (List Nat) := [[40], [41], [120], [99, 40], [32, 38, 32], [32, 124, 32], [38], [32], [110], [48], [119], [88], [99, 105, 40], [105], [], [10]]
theorem sg3 {s : List Nat} (h : s ∈ SG3) : Tx3 3 s := by
  have : SG3.all (fun s => asc s && decide (s.length ≤ 3)) = true := by decide
  have := List.all_eq_true.mp this s h
  rw [Bool.and_eq_true] at this
  exact ⟨this.1, of_decide_eq_true this.2⟩
theorem all5 {l : List (List Nat)} (hl : l.all (fun s => asc s && decide (s.length ≤ 5)) = true) {s : List Nat} (h : s ∈ l) : Tx3 5 s := by
  have := List.all_eq_true.mp hl s h
  rw [Bool.and_eq_true] at this
  exact ⟨this.1, of_decide_eq_true this.2⟩
abbrev EB3 (k : Nat) (x : List Nat) (a2 a3 a4 : Option Vl) : En := [some (.c k), some (.p (.str x)), a2, a3, a4]
theorem e_add {ρ : En} {S S1 S2 : Sto} {a b : ME} {x y : List Nat} (ha : a ρ S = .ok (.p (.str x)) S1) (hb : b ρ S1 = .ok (.p (.str y)) S2) (hl : x.length + y.length ≤ 100000) : eBin pAdd a b ρ S = .ok (.p (.str (x ++ y))) S2 := ev_bin ha hb (rd_p _ _) (rd_p _ _) (op_addS hl)
theorem w_no {w v : Nat} (h : w ≠ v) {ρ : En} {T : Sto} {s : MS} (hρ : ρ[3]? = some (some (.p (.int (w : Int))))) : sIf (tVal (eBin pEq (eVar 3) (eC (.int (v : Int))))) s sPass ρ T = .ok (.nx ρ) T :=
  ev_sif (q := false) (ev_tval (ev_bin (ev_var hρ) ev_c (rd_p _ _) (rd_p _ _) (by rw [op_eqN, beq_false_of_ne h]))) (ifK_f ev_pass)
theorem w_yes {w v : Nat} (h : w = v) {ρ : En} {T T1 : Sto} {s s' : MS} {d : Vl} (hρ : ρ[3]? = some (some (.p (.int (w : Int))))) (hs : s ρ T = .ok (.rt d) T1) : sSeq (sIf (tVal (eBin pEq (eVar 3) (eC (.int (v : Int))))) s sPass) s' ρ T = .ok (.rt d) T1 :=
  ev_seq (ev_sif (q := true) (ev_tval (ev_bin (ev_var hρ) ev_c (rd_p _ _) (rd_p _ _) (by rw [op_eqN, h, beq_self_eq_true]))) (ifK_t hs)) thn_r
theorem bent_ok {S : Sto} {k n : Nat} {x : List Nat} (hu : Urn S k) (h : Tx3 n x) (hn : n ≤ 3000) : ∃ y S', m__law_bent_text [.c k, .p (.str x)] S = .ok (.p (.str y)) S' ∧ Tx3 (2 * n + 10) y ∧ Ux k S S' := by
  have hxl := h.l
  have hxa := h.a
  obtain ⟨r, S1, e1, r0, r1, u1⟩ := ladle_ok (n := 6) hu (by decide) (by decide)
  obtain ⟨w, rfl⟩ := Int.eq_ofNat_of_zero_le r0
  have hw : w < 6 := by omega
  obtain ⟨r, S2, e2, r2, r3, u2⟩ := ladle_ok (n := ((x.length + 1 : Nat) : Int)) u1.urn (by omega) (by omega)
  obtain ⟨i, rfl⟩ := Int.eq_ofNat_of_zero_le r2
  obtain ⟨s, S3, hs, e3, u3⟩ := pickS (l := SG3) u2.urn (by decide) (by decide)
  have ts := sg3 hs
  have hsl := ts.l
  have u123 := (u1.trans u2).trans u3
  have len1 : pLen [.str x] = some (.int ((x.length : Nat) : Int)) := op_lenS (by omega)
  have add1 : pAdd (.int ((x.length : Nat) : Int)) (.int 1) = some (.int ((x.length + 1 : Nat) : Int)) := rfl
  let E (a2 : Option Vl) : En := EB3 k x a2 (some (.p (.int (w : Int)))) (some (.p (.int (i : Int))))
  have go : WS (b__law_bent_text (EB3 k x none none none) S) fun f S' => ∃ y, f = .rt (.p (.str y)) ∧ Tx3 (2 * n + 10) y ∧ Ux k S S' := by
    unfold b__law_bent_text
    refine ws_seq (ρ1 := E none) (S1 := S2) (ev_par (ev_acons (ev_fn (ev_acons (ev_var rfl) (ev_acons ev_c ev_anil)) e1) (ev_acons (ev_fn (ev_acons (ev_var rfl) (ev_acons (ev_bin (ev_call (ev_acons (ev_var rfl) ev_anil) (rds_c (rd_p _ _) (rds_nil _)) len1) ev_c (rd_p _ _) (rd_p _ _) add1) ev_anil)) e2) ev_anil)) rfl) ?_
    refine ws_seq (ρ1 := E (some (.p (.str s)))) (S1 := S3) (ev_asg (ev_fn (ev_acons (ev_var rfl) (ev_acons (show _ = Res.ok (Vl.p (.lst (SG3.map P.str))) S2 from rfl) ev_anil)) e3) (ev_gnm rfl)) ?_
    have hti : (x.take i).length ≤ x.length := by rw [List.length_take]; omega
    have hdi : ∀ j, (x.drop j).length ≤ x.length := fun j => by rw [List.length_drop]; omega
    have h0 := hdi i
    have h1 := hdi (i + 1)
    have p1 : ∀ {T : Sto}, eSl (eVar 1) oNo (oYes (eVar 4)) (E (some (.p (.str s)))) T = .ok (.p (.str (x.take i))) T := fun {T} => ev_sl (ev_var rfl) rfl rfl (rd_p _ _) (sl_pre3 (by omega) i)
    have p2 : ∀ {T : Sto}, eSl (eVar 1) (oYes (eVar 4)) oNo (E (some (.p (.str s)))) T = .ok (.p (.str (x.drop i))) T := fun {T} => ev_sl (ev_var rfl) rfl rfl (rd_p _ _) (sl_suf3 (by omega) i)
    have p3 : ∀ {T : Sto}, eSl (eVar 1) (oYes (eBin pAdd (eVar 4) (eC (.int 1)))) oNo (E (some (.p (.str s)))) T = .ok (.p (.str (x.drop (i + 1)))) T := fun {T} => ev_sl (lo := some (((i + 1 : Nat)) : Int)) (ev_var rfl) rfl rfl (rd_p _ _) (sl_suf3 (by omega) (i + 1))
    have pre := asc_take hxa i
    have suf := asc_drop hxa i
    have suf1 := asc_drop hxa (i + 1)
    by_cases w0 : w = 0
    · refine ws_of (f := .rt (.p (.str ((x.take i ++ s) ++ x.drop i)))) (S1 := S3) (w_yes w0 rfl (ev_ret (e_add (e_add p1 (ev_var rfl) (by omega)) p2 (by rw [List.length_append]; omega)))) ⟨_, rfl, ⟨asc_app (asc_app pre ts.a) suf, ?_⟩, u123⟩
      simp only [List.length_append]; omega
    refine ws_seq (w_no w0 rfl) ?_
    by_cases w1 : w = 1
    · refine ws_of (f := .rt (.p (.str (x.take i ++ x.drop (i + 1))))) (S1 := S3) (w_yes w1 rfl (ev_ret (e_add p1 p3 (by omega)))) ⟨_, rfl, ⟨asc_app pre suf1, ?_⟩, u123⟩
      simp only [List.length_append]; omega
    refine ws_seq (w_no w1 rfl) ?_
    by_cases w2 : w = 2
    · refine ws_of (f := .rt (.p (.str ((x.take i ++ s) ++ x.drop (i + 1))))) (S1 := S3) (w_yes w2 rfl (ev_ret (e_add (e_add p1 (ev_var rfl) (by omega)) p3 (by rw [List.length_append]; omega)))) ⟨_, rfl, ⟨asc_app (asc_app pre ts.a) suf1, ?_⟩, u123⟩
      simp only [List.length_append]; omega
    refine ws_seq (w_no w2 rfl) ?_
    by_cases w3 : w = 3
    · have pr : eUn pRev (eSl (eVar 1) (oYes (eVar 4)) oNo) (E (some (.p (.str s)))) S3 = .ok (.p (.str (x.drop i).reverse)) S3 := ev_un p2 (rd_p _ _) (by
        show (if (x.drop i).length ≤ 100000 then _ else _) = _
        rw [if_pos (by omega)])
      refine ws_of (f := .rt (.p (.str (x.take i ++ (x.drop i).reverse)))) (S1 := S3) (w_yes w3 rfl (ev_ret (e_add p1 pr (by rw [List.length_reverse]; omega)))) ⟨_, rfl, ⟨asc_app pre (asc_rev suf), ?_⟩, u123⟩
      simp only [List.length_append, List.length_reverse]; omega
    refine ws_seq (w_no w3 rfl) ?_
    by_cases w4 : w = 4
    · obtain ⟨a, S4, ha, e4, u4⟩ := pickS (l := [[40], [], [110, 40], [40, 40]]) u123.urn (by decide) (by decide)
      obtain ⟨b, S5, hb, e5, u5⟩ := pickS (l := [[41], [], [41, 41], [32, 38, 32, 120, 41]]) u4.urn (by decide) (by decide)
      have ta := all5 (by decide) ha
      have tb := all5 (by decide) hb
      have la := ta.l
      have lb := tb.l
      have f1 : eFn m__law_pick (aCons (eVar 0) (aCons (eLst (aCons (eC (.str [40])) (aCons (eC (.str [])) (aCons (eC (.str [110, 40])) (aCons (eC (.str [40, 40])) aNil))))) aNil)) (E (some (.p (.str s)))) S3 = .ok (.p (.str a)) S4 := ev_fn (ev_acons (ev_var rfl) (ev_acons (show _ = Res.ok (Vl.p (.lst ([[40], [], [110, 40], [40, 40]].map P.str))) S3 from rfl) ev_anil)) e4
      have f2 : eFn m__law_pick (aCons (eVar 0) (aCons (eLst (aCons (eC (.str [41])) (aCons (eC (.str [])) (aCons (eC (.str [41, 41])) (aCons (eC (.str [32, 38, 32, 120, 41])) aNil))))) aNil)) (E (some (.p (.str s)))) S4 = .ok (.p (.str b)) S5 := ev_fn (ev_acons (ev_var rfl) (ev_acons (show _ = Res.ok (Vl.p (.lst ([[41], [], [41, 41], [32, 38, 32, 120, 41]].map P.str))) S4 from rfl) ev_anil)) e5
      refine ws_of (f := .rt (.p (.str ((a ++ x) ++ b)))) (S1 := S5) (w_yes w4 rfl (ev_ret (e_add (e_add f1 (ev_var rfl) (by omega)) f2 (by rw [List.length_append]; omega)))) ⟨_, rfl, ⟨asc_app (asc_app ta.a hxa) tb.a, ?_⟩, (u123.trans u4).trans u5⟩
      simp only [List.length_append]; omega
    refine ws_seq (w_no w4 rfl) ?_
    obtain ⟨a, S4, ha, e4, u4⟩ := pickS (l := [[32, 38, 32], [32, 124, 32], [32], [38], [32, 38, 32, 32]]) u123.urn (by decide) (by decide)
    have ta := all5 (by decide) ha
    have la := ta.l
    have f1 : eFn m__law_pick (aCons (eVar 0) (aCons (eLst (aCons (eC (.str [32, 38, 32])) (aCons (eC (.str [32, 124, 32])) (aCons (eC (.str [32])) (aCons (eC (.str [38])) (aCons (eC (.str [32, 38, 32, 32])) aNil)))))) aNil)) (E (some (.p (.str s)))) S3 = .ok (.p (.str a)) S4 := ev_fn (ev_acons (ev_var rfl) (ev_acons (show _ = Res.ok (Vl.p (.lst ([[32, 38, 32], [32, 124, 32], [32], [38], [32, 38, 32, 32]].map P.str))) S3 from rfl) ev_anil)) e4
    refine ws_of (f := .rt (.p (.str (((([40] ++ x) ++ a) ++ x) ++ [41])))) (S1 := S4) (ev_ret (e_add (e_add (e_add (e_add ev_c (ev_var rfl) (by simp; omega)) f1 (by simp; omega)) (ev_var rfl) (by simp; omega)) ev_c (by simp; omega))) ⟨_, rfl, ⟨asc_app (asc_app (asc_app (asc_app (by decide) hxa) ta.a) hxa) (by decide), ?_⟩, u123.trans u4⟩
    simp only [List.length_append, List.length_cons, List.length_nil]; omega
  obtain ⟨f, S', e, y, rfl, ty, u⟩ := go
  refine ⟨y, S', ?_, ty, u⟩
  unfold m__law_bent_text
  exact ev_mkF rfl rfl e (by rw [endF_p, take_len u.len])
theorem pick4 {S : Sto} {k n : Nat} {x : List Nat} (hu : Urn S k) (h : Tx3 n x) (hn : n ≤ 3000) {a b c d a' b' c' d' : List Nat} (h4 : ∀ z ∈ [a, b, c, d, a', b', c', d'], Tx3 20 z) {ρ : En} {m : MA}
    (hm : m ρ S = .ok [.p (.str ((a ++ x) ++ a')), .p (.str ((b ++ x) ++ b')), .p (.str ((c ++ x) ++ c')), .p (.str ((d ++ x) ++ d'))] S) (hv : ρ[0]? = some (some (.c k))) :
    ∃ y S', eFn m__law_pick (aCons (eVar 0) (aCons (eLst m) aNil)) ρ S = .ok (.p (.str y)) S' ∧ Tx3 (n + 40) y ∧ Ux k S S' := by
  obtain ⟨y, S', hy, e, u⟩ := pickS (l := [(a ++ x) ++ a', (b ++ x) ++ b', (c ++ x) ++ c', (d ++ x) ++ d']) hu (by simp) (by simp)
  have tx : ∀ {a a' : List Nat}, Tx3 20 a → Tx3 20 a' → Tx3 (n + 40) ((a ++ x) ++ a') := fun ta ta' => ((ta.app h).app ta').mono (by omega)
  refine ⟨y, S', ev_fn (ev_acons (ev_var hv) (ev_acons (ev_lst hm (frzs_p [.str ((a ++ x) ++ a'), .str ((b ++ x) ++ b'), .str ((c ++ x) ++ c'), .str ((d ++ x) ++ d')] _) (by simp)) ev_anil)) e, ?_, u⟩
  simp only [List.mem_cons, List.not_mem_nil, or_false] at hy
  rcases hy with rfl | rfl | rfl | rfl
  · exact tx (h4 a (by simp)) (h4 a' (by simp))
  · exact tx (h4 b (by simp)) (h4 b' (by simp))
  · exact tx (h4 c (by simp)) (h4 c' (by simp))
  · exact tx (h4 d (by simp)) (h4 d' (by simp))
end Law

namespace Law
open PySem PySem.StrLaws L2 Mir Pl
theorem long_ok {S : Sto} {k : Nat} (hu : Urn S k) : ∃ y S', m__law_long [.c k] S = .ok (.p (.str y)) S' ∧ Tx3 400 y ∧ Ux k S S' := by
  obtain ⟨s, S1, hs, e1, u1⟩ := pickS (l := [[120], [40, 120, 32, 38, 32, 121, 41], [40, 40, 48, 32, 124, 32, 49, 41, 32, 38, 32, 122, 41]]) hu (by decide) (by decide)
  have ts : Tx3 330 s := by
    simp only [List.mem_cons, List.not_mem_nil, or_false] at hs
    rcases hs with rfl | rfl | rfl <;> exact ⟨by decide, by decide⟩
  let E (x : List Nat) (a2 : Option Vl) : En := [some (.c k), some (.p (.str x)), a2]
  have go : WS (b__law_long [some (.c k), none, none] S) fun f S' => ∃ y, f = .rt (.p (.str y)) ∧ Tx3 400 y ∧ Ux k S S' := by
    unfold b__law_long
    refine ws_seq (ρ1 := E s none) (S1 := S1) (ev_asg (ev_fn (ev_acons (ev_var rfl) (ev_acons (show _ = Res.ok (Vl.p (.lst ([[120], [40, 120, 32, 38, 32, 121, 41], [40, 40, 48, 32, 124, 32, 49, 41, 32, 38, 32, 122, 41]].map P.str))) S from rfl) ev_anil)) e1) (ev_gnm rfl)) ?_
    refine ws_seqW (ws_rng (n := 120) (fun i ρ T => ∃ x a2, ρ = E x a2 ∧ Tx3 330 x ∧ Ux k S T) (ev_range1 (n := 120) ev_c (by decide)) ⟨s, none, rfl, ts, u1⟩ ?_ ?_)
    · rintro i ρ T hi ⟨x, a2, rfl, tx, uT⟩
      let a2 : Option Vl := some (.p (.int (i : Int)))
      refine ⟨E x a2, T, ev_gnm rfl, ?_⟩
      have hxl := tx.l
      have lt : tVal (eBin bLt (eCall pLen (aCons (eVar 1) aNil)) (eC (.int 290))) (E x a2) T = .ok (decide (x.length < 290)) T :=
        ev_tval (ev_bin (ev_call (ev_acons (ev_var rfl) ev_anil) (rds_c (rd_p _ _) (rds_nil _)) (op_lenS (x := x) (by omega))) ev_c (rd_p _ _) (rd_p _ _) (op_ltN (b := 290)))
      by_cases h : x.length < 290
      · rw [decide_eq_true h] at lt
        obtain ⟨y, T1, e2, ty, u2⟩ := pick4 (n := 290) (x := x) (k := k) (ρ := E x a2) uT.urn ⟨tx.a, by omega⟩ (by decide) (a := [99, 40]) (a' := [41]) (b := [40]) (b' := [32, 38, 32, 122, 41]) (c := [110, 40]) (c' := [41]) (d := [40, 121, 32, 124, 32]) (d' := [41])
          (fun z hz => by simp only [List.mem_cons, List.not_mem_nil, or_false] at hz; rcases hz with rfl | rfl | rfl | rfl | rfl | rfl | rfl | rfl <;> exact ⟨by decide, by decide⟩)
          (ev_acons (e_add (e_add ev_c (ev_var (i := 1) rfl) (by simp; omega)) ev_c (by simp; omega)) (ev_acons (e_add (e_add ev_c (ev_var (i := 1) rfl) (by simp; omega)) ev_c (by simp; omega)) (ev_acons (e_add (e_add ev_c (ev_var (i := 1) rfl) (by simp; omega)) ev_c (by simp; omega)) (ev_acons (e_add (e_add ev_c (ev_var (i := 1) rfl) (by simp; omega)) ev_c (by simp; omega)) ev_anil)))) rfl
        exact ws_of (f := .nx (E y a2)) (S1 := T1) (ev_sif lt (ifK_t (ev_asg e2 (ev_gnm rfl)))) ⟨_, .inl rfl, y, _, rfl, ty, uT.trans u2⟩
      · rw [decide_eq_false h] at lt
        exact ws_of (f := .nx (E x a2)) (S1 := T) (ev_sif lt (ifK_f ev_pass)) ⟨_, .inl rfl, x, _, rfl, tx, uT⟩
    · rintro ρ T ⟨x, a2, rfl, tx, uT⟩
      refine ⟨_, rfl, ?_⟩
      have hxl := tx.l
      obtain ⟨y, T1, e2, ty, u2⟩ := pick4 (n := 330) (x := x) (k := k) (ρ := E x a2) uT.urn tx (by decide) (a := [105, 40]) (a' := [41]) (b := [105, 40, 99, 40]) (b' := [41, 41]) (c := [40, 120, 32, 38, 32, 110, 40]) (c' := [41, 41]) (d := [99, 40, 105, 40, 110, 40]) (d' := [41, 41, 41])
        (fun z hz => by simp only [List.mem_cons, List.not_mem_nil, or_false] at hz; rcases hz with rfl | rfl | rfl | rfl | rfl | rfl | rfl | rfl <;> exact ⟨by decide, by decide⟩)
        (ev_acons (e_add (e_add ev_c (ev_var (i := 1) rfl) (by simp; omega)) ev_c (by simp; omega)) (ev_acons (e_add (e_add ev_c (ev_var (i := 1) rfl) (by simp; omega)) ev_c (by simp; omega)) (ev_acons (e_add (e_add ev_c (ev_var (i := 1) rfl) (by simp; omega)) ev_c (by simp; omega)) (ev_acons (e_add (e_add ev_c (ev_var (i := 1) rfl) (by simp; omega)) ev_c (by simp; omega)) ev_anil)))) rfl
      exact ws_of (ev_ret e2) ⟨y, rfl, ty.mono (by decide), uT.trans u2⟩
  obtain ⟨f, S', e, y, rfl, ty, u⟩ := go
  refine ⟨y, S', ?_, ty, u⟩
  unfold m__law_long
  exact ev_mkF rfl rfl e (by rw [endF_p, take_len u.len])
def ODD3 : List P := [.non, .int 0, .bl true, .tup [.str [120]], .lst [.str [120]], .dct [] [], trmP [120], .int (10 ^ 40), .tup []]
theorem show_x3 : SV (trmP [120]) [84, 101, 114, 109, 32, 120] := by
  refine ⟨strOf [84, 101, 114, 109, 32, 120], ?_, by unfold txL strOf; simp, by decide, by rw [strOf_length]; decide⟩
  show showO rT "Term" (trmP [120]) = _
  unfold showO
  have e := tm_repr_ok (tx := [120]) (by decide) []
  have hl : rT.lookup ("Term" : PySem.Str) = some m_Term___repr__ := rfl
  rw [hl]
  dsimp only
  rw [e]
  rfl
theorem showI3 (i : Int) (h : i.natAbs.log2 < 1920) : showP rT (.int i) = some (P.int i).toD.shown := by
  show (if i.natAbs.log2 < 1920 then _ else _) = _
  rw [if_pos h]
  rfl
theorem show_big3 : SV (.int (10 ^ 40)) (reprP (.int (10 ^ 40))) := ⟨(P.int (10 ^ 40)).toD.shown, showI3 _ (by decide +kernel), rfl, by decide +kernel, by decide +kernel⟩
theorem show_dct3 : SV (.dct [] []) [123, 125] := ⟨"{}", rfl, by decide, by decide, by decide⟩
theorem odd3 {x : P} (h : x ∈ ODD3) : okV x = true ∧ isStrP x = false ∧ ∃ t, SV x t := by
  unfold ODD3 at h
  simp only [List.mem_cons, List.not_mem_nil, or_false] at h
  rcases h with rfl | rfl | rfl | rfl | rfl | rfl | rfl | rfl | rfl
  · exact ⟨rfl, rfl, _, show_plain (by decide) rfl rfl (by decide)⟩
  · exact ⟨rfl, rfl, _, show_plain (by decide) rfl (by decide +kernel) (by decide)⟩
  · exact ⟨rfl, rfl, _, show_plain (by decide) rfl rfl (by decide)⟩
  · exact ⟨rfl, rfl, _, show_plain (by decide) rfl rfl (by decide)⟩
  · exact ⟨rfl, rfl, _, show_plain (by decide) rfl rfl (by decide)⟩
  · exact ⟨rfl, rfl, _, show_dct3⟩
  · exact ⟨rfl, rfl, _, show_x3⟩
  · exact ⟨rfl, rfl, _, show_big3⟩
  · exact ⟨rfl, rfl, _, show_plain (by decide) rfl rfl (by decide)⟩
theorem told_odd {x : P} (h : x ∈ ODD3) (S : Sto) : m__law_told [.p x] S = .ok (.p (.bl false)) S := by
  obtain ⟨h1, h2, t, h3⟩ := odd3 h
  exact told_no3 (make_no3 (text_odd3 h1 h2) S) h3
theorem show_b3 (r : Bool) : ∃ t : PySem.Str, showP rT (.bl r) = some t ∧ t.length ≤ 100000 ∧ pNe (.str (txL t)) (.str (txL t)) = some (.bl false) := by
  cases r
  · exact ⟨_, rfl, by decide, by kernel_rfl⟩
  · exact ⟨_, rfl, by decide, by kernel_rfl⟩
theorem same3 {n : Nat} {x : List Nat} (h : Tx3 n x) (hn : n ≤ 9000) {ρ : En} {i : Nat} (hv : ρ[i]? = some (some (.p (.str x)))) (S : Sto) : tVal (eBin pNe (eRepr rT (eFn m__law_told (aCons (eVar i) aNil))) (eRepr rT (eFn m__law_is_term (aCons (eVar i) aNil)))) ρ S = .ok false S := by
  have hl := h.l
  obtain ⟨t, h1, h2, h3⟩ := show_b3 (isT x)
  exact ev_tval (ev_bin (ev_repr (ev_fn (ev_acons (ev_var hv) ev_anil) (told_text h.a (by omega) S)) (rd_p _ _) h1 h2) (ev_repr (ev_fn (ev_acons (ev_var hv) ev_anil) (is_term_ok h.a (by omega) S)) (rd_p _ _) h1 h2) (rd_p _ _) (rd_p _ _) h3)
def mostT : List Nat := (List.replicate 99 [99, 40]).flatten ++ [120] ++ List.replicate 99 41
theorem most1 : isT mostT = true := by decide +kernel
theorem most2 : isT (([105, 40] ++ mostT) ++ [41]) = false := by decide +kernel
theorem most3 : isT (mostT.drop 1) = false := by decide +kernel
theorem most_a : asc mostT = true := by decide +kernel
theorem most_l : mostT.length = 298 := by decide +kernel
abbrev E6' (k : Nat) (a1 a2 a3 a4 a5 : Option Vl) : En := [some (.c k), a1, a2, a3, a4, a5]
theorem right_ok {S : Sto} {k : Nat} (hu : Urn S k) : ∃ S', m__law_right [.c k] S = .ok (.p (.bl true)) S' := by
  have hls : Ltr [120, 121, 122] := fun s hs => by simp at hs; omega
  have txl : ∀ t : Tr, t.dep ≤ 4 → t.txt.length ≤ 300 := fun t hd => by
    have a := txt_len t
    have : 2 ^ t.dep ≤ 2 ^ 4 := Nat.pow_le_pow_right (by decide) hd
    have h16 : 2 ^ 4 = 16 := rfl
    omega
  have tasc : ∀ t : Tr, t.ok [120, 121, 122] → asc t.txt = true := fun t h => List.all_eq_true.mpr fun c hc => decide_eq_true (txt_asc hls h c hc)
  let E (a1 a2 a3 a4 a5 : Option Vl) : En := E6' k a1 a2 a3 a4 a5
  have go : WS (b__law_right (E none none none none none) S) fun f S' => f = .rt (.p (.bl true)) := by
    unfold b__law_right
    refine ws_seqW (ws_rng (n := 12) (fun i ρ T => ∃ a1 a2 a5, ρ = E a1 a2 none none a5 ∧ Ux k S T) (ev_range1 (n := 12) ev_c (by decide)) ⟨none, none, none, rfl, ⟨rfl, hu, fun _ _ => rfl⟩⟩ ?_ ?_)
    · rintro i ρ T hi ⟨a1, a2, a5, rfl, uT⟩
      let a1 : Option Vl := some (.p (.int (i : Int)))
      refine ⟨E a1 a2 none none a5, T, ev_gnm rfl, ?_⟩
      obtain ⟨r, T2, e2, r0, r1, u2⟩ := ladle_ok (n := 5) uT.urn (by decide) (by decide)
      obtain ⟨d, rfl⟩ := Int.eq_ofNat_of_zero_le r0
      obtain ⟨t, T3, e3, tok, tdep, u3⟩ := drawn_term_ok (ls := [120, 121, 122]) (by simp) (by simp) d 7 (by omega) (by omega) u2.urn
      have tl := txl t (by omega)
      have ta := tasc t tok
      have tt := term_text_ok t 16 (by omega) (by omega) T3
      have tx : Tx3 300 t.txt := ⟨ta, tl⟩
      obtain ⟨x, T4, e4, tx4, u4⟩ := bent_ok u3.urn tx (by decide)
      obtain ⟨y, T5, e5, tx5, u5⟩ := bent_ok u4.urn tx4 (by decide)
      let a2 : Option Vl := some (.p (.str t.txt))
      refine ws_seq (ρ1 := E a1 a2 none none a5) (S1 := T3) (ev_asg (ev_fn (ev_acons (ev_fn (ev_acons (ev_var rfl) (ev_acons (ev_fn (ev_acons (ev_var rfl) (ev_acons ev_c ev_anil)) e2) (ev_acons (show _ = Res.ok (Vl.p (lsP [120, 121, 122])) T2 from rfl) ev_anil))) e3) ev_anil) tt) (ev_gnm rfl)) ?_
      refine ws_seq (ρ1 := E a1 a2 none none (some (.p (.str x)))) (S1 := T4) (ev_asg (ev_fn (ev_acons (ev_var rfl) (ev_acons (ev_var rfl) ev_anil)) e4) (ev_gnm rfl)) ?_
      have td := told_yes3 ta (fun S => term_text_made hls tok tl S) T4
      refine ws_seq (ρ1 := E a1 a2 none none (some (.p (.str x)))) (S1 := T4) (ev_sif (q := false) (ev_tor (q := false) (ev_tval (ev_bin (ev_fn (ev_acons (ev_var rfl) ev_anil) td) ev_c (rd_p _ _) (rd_p _ _) rfl)) (orK_f (same3 tx4 (by decide) rfl T4))) (ifK_f ev_pass)) ?_
      refine ws_seq (ρ1 := E a1 a2 none none (some (.p (.str y)))) (S1 := T5) (ev_asg (ev_fn (ev_acons (ev_var rfl) (ev_acons (ev_var rfl) ev_anil)) e5) (ev_gnm rfl)) ?_
      exact ws_of (f := .nx (E a1 a2 none none (some (.p (.str y))))) (S1 := T5) (ev_sif (q := false) (same3 tx5 (by decide) rfl T5) (ifK_f ev_pass)) ⟨_, .inl rfl, _, _, _, rfl, (((uT.trans u2).trans u3).trans u4).trans u5⟩
    · rintro ρ T ⟨a1, a2, a5, rfl, uT⟩
      refine ⟨_, rfl, ?_⟩
      obtain ⟨x, T1, e1, tx, u1⟩ := long_ok uT.urn
      let a2 : Option Vl := some (.p (.str x))
      refine ws_seq (ρ1 := E a1 a2 none none a5) (S1 := T1) (ev_asg (ev_fn (ev_acons (ev_var rfl) ev_anil) e1) (ev_gnm rfl)) ?_
      refine ws_seq (ρ1 := E a1 a2 none none a5) (S1 := T1) (ev_sif (q := false) (same3 tx (by decide) rfl T1) (ifK_f ev_pass)) ?_
      let a3 : Option Vl := some (.p (.str mostT))
      refine ws_seq (ρ1 := E a1 a2 a3 none a5) (S1 := T1) (ev_asg (d := .p (.str mostT)) (by kernel_rfl) (ev_gnm rfl)) ?_
      have ml := most_l
      have m1 : m__law_told [.p (.str mostT)] T1 = .ok (.p (.bl true)) T1 := by rw [told_text most_a (by omega) T1, most1]
      have m2 : m__law_told [.p (.str (([105, 40] ++ mostT) ++ [41]))] T1 = .ok (.p (.bl false)) T1 := by rw [told_text (asc_app (asc_app (by decide) most_a) (by decide)) (by simp; omega) T1, most2]
      have m3 : m__law_told [.p (.str (mostT.drop 1))] T1 = .ok (.p (.bl false)) T1 := by rw [told_text (asc_drop most_a 1) (by rw [List.length_drop]; omega) T1, most3]
      have e298 : pLen [.str mostT] = some (.int 298) := by
        have := op_lenS (x := mostT) (by omega)
        rw [this, ml]
        rfl
      refine ws_seq (ρ1 := E a1 a2 a3 none a5) (S1 := T1) (ev_sif (q := false) (ev_tval (ev_bin (x := .lst [.int 298, .bl true, .bl false, .bl false]) (y := .lst [.int 298, .bl true, .bl false, .bl false]) (ev_lst (xs := [.int 298, .bl true, .bl false, .bl false]) (ev_acons (ev_call (ev_acons (ev_var rfl) ev_anil) (rds_c (rd_p _ _) (rds_nil _)) e298) (ev_acons (ev_fn (ev_acons (ev_var rfl) ev_anil) m1) (ev_acons (ev_fn (ev_acons (e_add (e_add ev_c (ev_var (i := 3) rfl) (by simp; omega)) ev_c (by simp; omega)) ev_anil) m2) (ev_acons (ev_fn (ev_acons (ev_sl (lo := some ((1 : Nat) : Int)) (ev_var rfl) rfl rfl (rd_p _ _) (sl_suf3 (x := mostT) (by omega) 1)) ev_anil) m3) ev_anil)))) (frzs_p [.int 298, .bl true, .bl false, .bl false] _) (by simp)) (ev_lst (xs := [.int 298, .bl true, .bl false, .bl false]) (ev_acons ev_c (ev_acons ev_c (ev_acons ev_c (ev_acons ev_c ev_anil)))) (frzs_p [.int 298, .bl true, .bl false, .bl false] _) (by simp)) (rd_p _ _) (rd_p _ _) (op_neX (by decide)))) (ifK_f ev_pass)) ?_
      obtain ⟨z, T2, e2, hz, u2⟩ := pick_ok (xs := ODD3) u1.urn (by simp [ODD3]) (by simp [ODD3])
      have mx : eMake false "Term" m_Term___init__ (aCons (eC (.str [120])) aNil) (E a1 a2 a3 none a5) T1 = .ok (.p (trmP [120])) T1 := ev_make (ev_acons ev_c ev_anil) (term_text_made (t := .leaf 120) hls (.inl (by decide)) (by decide) T1)
      have e10 : eBin (pIC bPow fun i j => i ^ j.toNat) (eC (.int 10)) (eC (.int 40)) (E a1 a2 a3 none a5) T1 = .ok (.p (.int (10 ^ 40))) T1 := by kernel_rfl
      have eo : (eFn m__law_pick (aCons (eVar 0) (aCons (eLst (aCons (eC .non) (aCons (eC (.int 0)) (aCons (eC (.bl true)) (aCons (eTup (aCons (eC (.str [120])) aNil)) (aCons (eLst (aCons (eC (.str [120])) aNil)) (aCons eDct0 (aCons (eMake false "Term" m_Term___init__ (aCons (eC (.str [120])) aNil)) (aCons (eBin (pIC bPow fun i j => i ^ j.toNat) (eC (.int 10)) (eC (.int 40))) (aCons (eTup aNil) aNil)))))))))) aNil))) (E a1 a2 a3 none a5) T1 = .ok (.p z) T2 :=
        ev_fn (ev_acons (ev_var rfl) (ev_acons (ev_lst (xs := ODD3) (ev_acons ev_c (ev_acons ev_c (ev_acons ev_c (ev_acons (show _ = Res.ok (Vl.p (.tup [.str [120]])) T1 from rfl) (ev_acons (show _ = Res.ok (Vl.p (.lst [.str [120]])) T1 from rfl) (ev_acons (show _ = Res.ok (Vl.p (.dct [] [])) T1 from rfl) (ev_acons mx (ev_acons e10 (ev_acons (show _ = Res.ok (Vl.p (.tup [])) T1 from rfl) ev_anil))))))))) (frzs_p ODD3 _) (by simp [ODD3])) ev_anil)) e2
      refine ws_seq (ρ1 := E a1 a2 a3 (some (.p z)) a5) (S1 := T2) (ev_asg eo (ev_gnm rfl)) ?_
      have n1 : m__law_told [.p (.str mostT)] T2 = .ok (.p (.bl true)) T2 := by rw [told_text most_a (by omega) T2, most1]
      exact ws_of (ev_ret (ev_eand (q := true) (ev_bin (ev_fn (ev_acons (ev_var rfl) ev_anil) n1) ev_c (rd_p _ _) (rd_p _ _) rfl) (ev_bin (ev_fn (ev_acons (ev_var rfl) ev_anil) (told_odd hz T2)) ev_c (rd_p _ _) (rd_p _ _) rfl))) rfl
  obtain ⟨f, S', e, rfl⟩ := go
  refine ⟨S'.take S.length, ?_⟩
  unfold m__law_right
  refine ev_mkF rfl rfl e ?_
  rw [endF_p]
end Law

namespace Law
open PySem L2 Mir Pl
theorem all_ok (ns : List Int) (hn : ns.length ≤ 63) : ∃ S', m_law [.p (.scr (ns.map Mir.P.int))] [] = .ok (.p (.bl true)) S' := by
  unfold m_law b_law
  exact law_end (K := 5) (by decide) (by decide) (fun S k hu => right_ok hu) (fun t S ht => let ⟨S', e, u, _⟩ := urn_of_ok hn ht S; ⟨S', e, u⟩) rfl []
end Law
open PySem PySem.W PyProof.Rows
theorem PySem.Challenge.cw_closedinner_k03_whole_texts_of_terms_holds : PySem.Challenge.rw_closedinner_k03_whole_texts_of_terms.Holds := by
  exact law_of Law.all_ok

