import PyProof.Rows.All
import Wide.All
import OpenK.AllK
import Wide.FinOn
import KE.KStateDown
import KE.KeyNested
import KE.KDictCopyH
import HandS.ForMost
import HandS.Exc
import HandS.TryOnly
import HandS.ExcOwn
import HandS.Lambda
import HandS.WordsExc
import HandS.Evl
import HandS.Defaults
import HandS.Head0
import HandS.Head1
import HandS.Head2
import HandS.HeadEnd
import HandS.HeadHook1
import HandS.HeadHook2
import HandS.HeadHook3
import HandS.HeadHook4
import HandS.TupAny
import HandS.Style
import HandS.SortInts
import HandS.RaiseMore
import HandS.WideBits
import HandS.SetFor
import HandS.ReplaceList
import HandS.CallSlots
import HandS.Property
import HandS.IsInst
import HandS.Ends
import PyProof.ReprRoads
import HandS.Dict
import HandS.Deep
import HandS.Conv
import HandS.FStr
import HandS.Star
import KE.GoesMore
import HandS.Strs
import HandS.Replace
import KE.GoesZip
import PyProof.WalkInts
import HandS.NoneIn
import PyProof.InstNe
import KE.SortData
import KE.KCallOwn
import KE.KIsAll
import HandS.SetKeys
import HandS.ExcInit
import HandS.ExcField
import HandS.ExcIs
import HandS.TryMany
import KE.KExcInit
import PyProof.ExcBaseAll.LookupError
import PyProof.ExcBaseAll.ArithmeticError
import PyProof.ExcBaseAll.ValueError
import HandS.HotCalls
import PyProof.StrOps2
import HandS.DictSubView
import PyProof.SeqIndex
import PyProof.InstEq
import HandS.Records
import HandS.ReplaceLit
import PyProof.ToksMono
import PyProof.NsMap
import HandS.DictComp
import KE.KEqNest
import HandS.TupMul
import KE.IntBitsLaws
import KE.OsArith
import KE.BitLaws
import PySem.Challenge.RW_closedinner_k52_whole_drafts_through_cha
set_option Elab.async false
set_option linter.all false
set_option maxRecDepth 100000
set_option maxHeartbeats 0

namespace Mir
open PySem L2

inductive P where
  | non | bl (b : Bool) | int (i : Int) | str (x : List Nat)
  | tup (xs : List P) | lst (xs : List P)
  | dct (ks vs : List P)
  | obj (c : Str) (ns : List Str) (xs : List P)
  | ty (n : String) | glo (x : Str)
  | raw (a : Addr)
  | rwp (y z : List Nat)
  | scr (xs : List P)
inductive Vl where
  | p (x : P) | c (k : Nat)
def lamC (K : PySem.W.Frag) (x : Str) : Addr := match K.lookup (He.ga K x) with
  | some ⟨_, _, .func fd, _⟩ => (match fd.code with
    | .ref c => c
    | _ => 0)
  | _ => 0
def lamT (K : PySem.W.Frag) (x : Str) : Addr := He.tabOf K (lamC K x)
inductive Cell where
  | lst (xs : List P)
  | lsv (xs : List Vl)
  | dct (ks vs : List P)
  | ins (c : Str) (ns : List Str) (xs : List Vl)
  | fz (x : P) | res
  | tup (xs : List P)
  | dcT (ks : List (List (Int ⊕ List Nat))) (xs : List P)
  | dcN (η : NestedKey → Int) (ks xs : List P)
  | tbl (x q : Str)
  | dvs (xs : List P)
  | tblC (x q : Str) (c : Addr)
  | tpz (xs : List P)
abbrev Sto := List Cell
abbrev XD := Option (List Str × List P)
inductive Res (A : Type) where
  | ok (a : A) (S : Sto)
  | exc (c : Str) (d : XD) (S : Sto)
  | bad
def Res.bind {A B : Type} (r : Res A) (f : A → Sto → Res B) : Res B := match r with
  | .ok a S => f a S
  | .exc c d S => .exc c d S
  | .bad => .bad
abbrev En := List (Option Vl)
abbrev ME := En → Sto → Res Vl

def strOf (x : List Nat) : Str := ⟨x.toArray⟩
def kk : Int ⊕ List Nat → Key
  | .inl i => .inl i
  | .inr x => .inr (strOf x)

mutual
def nkOf : P → Option NestedKey
  | .non => some .none
  | .bl b => some (.num (if b then 1 else 0))
  | .int i => some (.num i)
  | .str x => some (.text (strOf x))
  | .tup xs => (match nkL xs with
    | some ks => some (.tup ks)
    | none => none)
  | _ => none
def nkL : List P → Option (List NestedKey)
  | [] => some []
  | x :: xs => (match nkOf x, nkL xs with
    | some k, some ks => some (k :: ks)
    | _, _ => none)
end
def DNo (η : NestedKey → Int) (a : Addr) (es : List (NestedKey × Addr × V)) : HO := .ext fun h => es.length ≤ sizeLine ∧ (a == sysModules) = false ∧ ∃ xs : List (NestedKey × Addr × Value),
  Paired (fun (p : NestedKey × Addr × V) (q : NestedKey × Addr × Value) => p.1 = q.1 ∧ p.2.1 = q.2.1 ∧ RelV p.2.2 q.2.2) es xs ∧
  ∃ ds ep, h.DictRaw a ds ep ∧ ds.toList = xs.map (fun x => (⟨η x.1, .ref x.2.1, x.2.2⟩ : DictEntry)) ∧ (xs.map (·.1)).Nodup ∧ ∀ x ∈ xs, x.1.depth ≤ 8
def RawT (K : PySem.W.Frag) (H : Hp) (a : Addr) (y z : Str) (t u : Tok) : Prop :=
  (∃ (o : Obj) (n : Nat), (H a = some (.frz o (.tup [.str y, .str z])) ∨ K.lookup a = some o) ∧ o.cls = .type "tuple" ∧ o.data = .seq #[.str y t, .str z u] n) ∧ t ≠ 0 ∧ u ≠ 0 ∧ t ≠ u ∧ (y == z) = false
mutual
def Rep (K : PySem.W.Frag) (F : Hp) : P → V → Prop
  | .non, v => v = .non
  | .bl b, v => v = .bl b
  | .int i, v => v = .int i
  | .str x, v => v = .str (strOf x)
  | .tup xs, v => ∃ a vs, v = .ref a ∧ SqT K F a vs ∧ RepL K F xs vs
  | .lst xs, v => ∃ a vs, v = .ref a ∧ F a = some (.lst vs) ∧ RepL K F xs vs
  | .scr xs, v => ∃ a vs, v = .ref a ∧ SqL K F a vs ∧ RepL K F xs vs
  | .dct ks xs, v => ∃ a kvs, v = .ref a ∧ F a = some (.dK kvs) ∧ RepL K F ks (kvs.map fun q => kV q.1) ∧ RepL K F xs (kvs.map (·.2))
  | .obj c ns xs, v => ∃ a dx gs, v = .ref a ∧ F a = some (.ins (He.ga K c) dx gs) ∧ gs.map (·.1) = ns ∧ RepL K F xs (gs.map (·.2))
  | .ty n, v => v = .ty n
  | .glo x, v => v = .ref (He.ga K x)
  | .raw a, v => v = .ref a
  | .rwp y z, v => ∃ a t u, v = .ref a ∧ RawT K F a (strOf y) (strOf z) t u
def RepL (K : PySem.W.Frag) (F : Hp) : List P → List V → Prop
  | [], vs => vs = []
  | x :: xs, vs => ∃ v r, vs = v :: r ∧ Rep K F x v ∧ RepL K F xs r
end

section
variable {K : PySem.W.Frag} {F F' : Hp}
theorem sqt_mono {a : Addr} {vs : List V} (e : Same F F') (h : SqT K F a vs) : SqT K F' a vs := Evl.ex_t e h
theorem sql_mono {a : Addr} {vs : List V} (e : Same F F') (h : SqL K F a vs) : SqL K F' a vs := Evl.ex_l e h
mutual
theorem Rep.mono (e : Same F F') : ∀ {x : P} {v : V}, Rep K F x v → Rep K F' x v
  | .non, _, h => h
  | .bl _, _, h => h
  | .int _, _, h => h
  | .str _, _, h => h
  | .tup xs, v, h => by
    obtain ⟨a, vs, e1, h1, h2⟩ := h
    exact ⟨a, vs, e1, sqt_mono e h1, RepL.mono e h2⟩
  | .lst xs, v, h => by
    obtain ⟨a, vs, e1, h1, h2⟩ := h
    exact ⟨a, vs, e1, e _ _ h1, RepL.mono e h2⟩
  | .scr xs, v, h => by
    obtain ⟨a, vs, e1, h1, h2⟩ := h
    exact ⟨a, vs, e1, sql_mono e h1, RepL.mono e h2⟩
  | .dct ks xs, v, h => by
    obtain ⟨a, kvs, e1, h1, h2, h3⟩ := h
    exact ⟨a, kvs, e1, e _ _ h1, RepL.mono e h2, RepL.mono e h3⟩
  | .obj c ns xs, v, h => by
    obtain ⟨a, dx, gs, e1, h1, h2, h3⟩ := h
    exact ⟨a, dx, gs, e1, e _ _ h1, h2, RepL.mono e h3⟩
  | .ty _, _, h => h
  | .glo _, _, h => h
  | .raw _, _, h => h
  | .rwp y z, v, h => by
    obtain ⟨a, t, u, e1, ⟨o, n, h1, h2, h3⟩, h4⟩ := h
    exact ⟨a, t, u, e1, ⟨o, n, h1.imp (e _ _) id, h2, h3⟩, h4⟩
theorem RepL.mono (e : Same F F') : ∀ {xs : List P} {vs : List V}, RepL K F xs vs → RepL K F' xs vs
  | [], _, h => h
  | x :: xs, vs, h => by
    obtain ⟨v, r, e1, h1, h2⟩ := h
    exact ⟨v, r, e1, Rep.mono e h1, RepL.mono e h2⟩
end
theorem RepL.length : ∀ {xs : List P} {vs : List V}, RepL K F xs vs → vs.length = xs.length
  | [], _, h => by
    have h' : _ = _ := h
    rw [h']
    rfl
  | x :: xs, vs, h => by
    obtain ⟨v, r, e1, h1, h2⟩ := h
    rw [e1, List.length_cons, List.length_cons, RepL.length h2]
theorem RepL.get : ∀ {xs : List P} {vs : List V} {i : Nat} {x : P}, RepL K F xs vs → xs[i]? = some x → ∃ v, vs[i]? = some v ∧ Rep K F x v
  | [], _, _, _, h, e => by simp at e
  | y :: xs, vs, 0, x, h, e => by
    obtain ⟨v, r, e1, h1, h2⟩ := h
    have : y = x := by simpa using e
    subst this
    subst e1
    exact ⟨v, rfl, h1⟩
  | y :: xs, vs, i + 1, x, h, e => by
    obtain ⟨v, r, e1, h1, h2⟩ := h
    subst e1
    obtain ⟨u, hu, hr⟩ := RepL.get (i := i) h2 (by simpa using e)
    exact ⟨u, by simpa using hu, hr⟩
theorem RepL.getV : ∀ {xs : List P} {vs : List V} {i : Nat} {v : V}, RepL K F xs vs → vs[i]? = some v → ∃ x, xs[i]? = some x ∧ Rep K F x v := fun {xs vs i v} h e => by
  have hl := RepL.length h
  have hi : i < xs.length := by
    rw [← hl]
    exact (List.getElem?_eq_some_iff.mp e).1
  obtain ⟨u, hu, hr⟩ := RepL.get (i := i) (x := xs[i]) h (by simp [hi])
  rw [e] at hu
  cases hu
  exact ⟨xs[i], by simp [hi], hr⟩
theorem RepL.nil : RepL K F [] [] := rfl
theorem RepL.cons {x : P} {xs : List P} {v : V} {vs : List V} (h : Rep K F x v) (t : RepL K F xs vs) : RepL K F (x :: xs) (v :: vs) := ⟨v, vs, rfl, h, t⟩
theorem RepL.append : ∀ {xs ys : List P} {vs ws : List V}, RepL K F xs vs → RepL K F ys ws → RepL K F (xs ++ ys) (vs ++ ws)
  | [], _, _, _, h, t => by
    have h' : _ = _ := h
    subst h'
    exact t
  | x :: xs, ys, vs, ws, h, t => by
    obtain ⟨v, r, e1, h1, h2⟩ := h
    subst e1
    exact ⟨v, r ++ ws, rfl, h1, RepL.append h2 t⟩
theorem RepL.take : ∀ {xs : List P} {vs : List V} (n : Nat), RepL K F xs vs → RepL K F (xs.take n) (vs.take n)
  | [], vs, n, h => by
    have h' : _ = _ := h
    subst h'
    simp only [List.take_nil]
    exact .nil
  | x :: xs, vs, 0, h => by
    simp only [List.take_zero]
    exact .nil
  | x :: xs, vs, n + 1, h => by
    obtain ⟨v, r, e1, h1, h2⟩ := h
    subst e1
    exact ⟨v, r.take n, rfl, h1, RepL.take n h2⟩
theorem RepL.drop : ∀ {xs : List P} {vs : List V} (n : Nat), RepL K F xs vs → RepL K F (xs.drop n) (vs.drop n)
  | [], vs, n, h => by
    have h' : _ = _ := h
    subst h'
    simp only [List.drop_nil]
    exact .nil
  | x :: xs, vs, 0, h => h
  | x :: xs, vs, n + 1, h => by
    obtain ⟨v, r, e1, h1, h2⟩ := h
    subst e1
    exact RepL.drop n h2
theorem RepL.reverse {xs : List P} {vs : List V} (h : RepL K F xs vs) : RepL K F xs.reverse vs.reverse := by
  induction xs generalizing vs with
  | nil =>
    have h' : _ = _ := h
    subst h'
    exact .nil
  | cons x xs ih =>
    obtain ⟨v, r, e1, h1, h2⟩ := h
    subst e1
    simp only [List.reverse_cons]
    exact (ih h2).append (.cons h1 .nil)
theorem RepL.set : ∀ {xs : List P} {vs : List V} {x : P} {v : V} (i : Nat), RepL K F xs vs → Rep K F x v → RepL K F (xs.set i x) (vs.set i v)
  | [], _, _, _, _, h, _ => by
    have h' : _ = _ := h
    subst h'
    exact .nil
  | y :: xs, vs, x, v, 0, h, hx => by
    obtain ⟨u, r, e1, h1, h2⟩ := h
    subst e1
    exact ⟨v, r, rfl, hx, h2⟩
  | y :: xs, vs, x, v, i + 1, h, hx => by
    obtain ⟨u, r, e1, h1, h2⟩ := h
    subst e1
    exact ⟨u, r.set i v, rfl, h1, RepL.set i h2 hx⟩
theorem RepL.dropLast {xs : List P} {vs : List V} (h : RepL K F xs vs) : RepL K F xs.dropLast vs.dropLast := by
  rw [List.dropLast_eq_take, List.dropLast_eq_take, h.length]
  exact h.take _
theorem RepL.replicate {x : P} {v : V} (h : Rep K F x v) : ∀ n, RepL K F (List.replicate n x) (List.replicate n v)
  | 0 => .nil
  | n + 1 => ⟨v, _, rfl, h, RepL.replicate h n⟩
end

abbrev Io := List (Option Addr)
def RepV (K : PySem.W.Frag) (io : Io) (F : Hp) : Vl → V → Prop
  | .p x, v => Rep K F x v
  | .c k, v => ∃ a, io[k]? = some (some a) ∧ v = .ref a
def RepVs (K : PySem.W.Frag) (io : Io) (F : Hp) : List Vl → List V → Prop
  | [], vs => vs = []
  | x :: xs, vs => ∃ v r, vs = v :: r ∧ RepV K io F x v ∧ RepVs K io F xs r
def CellAt (K : PySem.W.Frag) (io : Io) (F H : Hp) (k : Nat) : Cell → Prop
  | .lst xs => ∃ a vs, io[k]? = some (some a) ∧ F a = none ∧ H a = some (.lst vs) ∧ RepL K F xs vs
  | .lsv xs => ∃ a vs, io[k]? = some (some a) ∧ F a = none ∧ H a = some (.lst vs) ∧ RepVs K io F xs vs ∧ ∀ j, Vl.c j ∈ xs → j < k
  | .dct ks xs => ∃ a kvs, io[k]? = some (some a) ∧ F a = none ∧ H a = some (.dK kvs) ∧ RepL K F ks (kvs.map fun q => kV q.1) ∧ RepL K F xs (kvs.map (·.2))
  | .ins c ns xs => ∃ a dx gs, io[k]? = some (some a) ∧ F a = none ∧ H a = some (.ins (He.ga K c) dx gs) ∧ gs.map (·.1) = ns ∧ RepVs K io F xs (gs.map (·.2)) ∧ ∀ j, Vl.c j ∈ xs → j < k
  | .fz x => ∃ a, io[k]? = some (some a) ∧ Rep K F x (.ref a)
  | .res => io[k]? = some none
  | .tup xs => ∃ a vs, io[k]? = some (some a) ∧ F a = some (.tup vs) ∧ RepL K F xs vs
  | .tpz xs => ∃ a vs o, io[k]? = some (some a) ∧ F a = some (.frz o (.tup vs)) ∧ o.cls = .type "tuple" ∧ o.dict = none ∧ RepL K F xs vs
  | .dcT ks xs => ∃ a ws, io[k]? = some (some a) ∧ F a = none ∧ H a = some (.dT ((ks.map (List.map kk)).zip ws)) ∧ ks.length = ws.length ∧ RepL K F xs ws
  | .dcN η ks xs => ∃ a es, io[k]? = some (some a) ∧ F a = none ∧ H a = some (DNo η a es) ∧ nkL ks = some (es.map (·.1)) ∧ RepL K F ks (es.map fun e => V.ref e.2.1) ∧ RepL K F xs (es.map (·.2.2))
  | .tbl x q => io[k]? = some (some (lamT K x)) ∧ F (lamT K x) = none ∧ ∃ ps : Array Value, H (lamT K x) = some (.tbl ps) ∧ TriplesOk ps.toList ∧ ∀ (pos : Pos) (cv : Value), codeAmong pos ps.toList = some cv → ∃ c, cv = .ref c ∧ F c = some (LamX.CodeO c q)
  | .dvs xs => ∃ a o η es, io[k]? = some (some a) ∧ F a = some (.frz o (DNo η a es)) ∧ RepL K F xs (es.map (·.2.2))
  | .tblC x q c => (io[k]? = some (some (lamT K x)) ∧ F (lamT K x) = none ∧ ∃ ps : Array Value, H (lamT K x) = some (.tbl ps) ∧ TriplesOk ps.toList ∧ ∀ (pos : Pos) (cv : Value), codeAmong pos ps.toList = some cv → ∃ c, cv = .ref c ∧ F c = some (LamX.CodeO c q)) ∧ F c = some (LamX.CodeO c q)
structure Sta (K : PySem.W.Frag) (io : Io) (F : Hp) (S : Sto) (H : Hp) : Prop where
  len : io.length = S.length
  inj : ∀ (j k : Nat) (a : Addr), io[j]? = some (some a) → io[k]? = some (some a) → j = k
  sub : Same F H
  trk : ∀ (k : Nat) (a : Addr), io[k]? = some (some a) → H a ≠ none
  cel : ∀ (k : Nat) (c : Cell), S[k]? = some c → CellAt K io F H k c
structure Nxt (io : Io) (F H : Hp) (io' : Io) (F' H' : Hp) : Prop where
  han : ∀ (k : Nat) (a : Addr), io[k]? = some (some a) → io'[k]? = some (some a)
  fr : Same F F'
  out : ∀ (a : Addr) (o : HO), H a = some o → (∀ k : Nat, io[k]? ≠ some (some a)) → H' a = some o
  new : ∀ (k : Nat) (a : Addr), io'[k]? = some (some a) → io[k]? = some (some a) ∨ H a = none
  stay : ∀ a : Addr, H' a = none → H a = none
  nf : ∀ a : Addr, F' a ≠ none → F a ≠ none ∨ H a = none ∨ ∃ k : Nat, io[k]? = some (some a)
section
variable {K : PySem.W.Frag} {io io1 io2 : Io} {F F1 F2 H H1 H2 : Hp} {S : Sto}
theorem Nxt.refl : Nxt io F H io F H := ⟨fun _ _ h => h, fun _ _ h => h, fun _ _ h _ => h, fun _ _ h => .inl h, fun _ h => h, fun _ h => .inl h⟩
theorem Nxt.trans (a : Nxt io F H io1 F1 H1) (b : Nxt io1 F1 H1 io2 F2 H2) : Nxt io F H io2 F2 H2 where
  han := fun k x h => b.han k x (a.han k x h)
  fr := a.fr.trans b.fr
  out := fun x o h n => b.out x o (a.out x o h n) fun k e => by
    rcases a.new k x e with q | q
    · exact n k q
    · rw [h] at q; cases q
  new := fun k x h => by
    rcases b.new k x h with q | q
    · exact a.new k x q
    · exact .inr (a.stay x q)
  stay := fun x h => a.stay x (b.stay x h)
  nf := fun x h => by
    rcases b.nf x h with q | q | ⟨k, q⟩
    · exact a.nf x q
    · exact .inr (.inl (a.stay x q))
    · rcases a.new k x q with z | z
      · exact .inr (.inr ⟨k, z⟩)
      · exact .inr (.inl z)
theorem RepV.mono {io' : Io} {F' : Hp} (hi : ∀ (k : Nat) (a : Addr), io[k]? = some (some a) → io'[k]? = some (some a)) (e : Same F F') : ∀ {d : Vl} {v : V}, RepV K io F d v → RepV K io' F' d v
  | .p _, _, h => Rep.mono e h
  | .c k, _, ⟨a, h, r⟩ => ⟨a, hi k a h, r⟩
theorem RepVs.mono {io' : Io} {F' : Hp} (hi : ∀ (k : Nat) (a : Addr), io[k]? = some (some a) → io'[k]? = some (some a)) (e : Same F F') : ∀ {ds : List Vl} {vs : List V}, RepVs K io F ds vs → RepVs K io' F' ds vs
  | [], _, h => h
  | d :: ds, _, ⟨v, r, e1, h1, h2⟩ => ⟨v, r, e1, RepV.mono hi e h1, RepVs.mono hi e h2⟩
theorem RepVs.length : ∀ {xs : List Vl} {vs : List V}, RepVs K io F xs vs → vs.length = xs.length
  | [], _, h => by
    have h' : _ = _ := h
    rw [h']
    rfl
  | x :: xs, vs, h => by
    obtain ⟨v, r, e1, h1, h2⟩ := h
    rw [e1, List.length_cons, List.length_cons, RepVs.length h2]
theorem RepVs.get : ∀ {xs : List Vl} {vs : List V} {i : Nat} {x : Vl}, RepVs K io F xs vs → xs[i]? = some x → ∃ v, vs[i]? = some v ∧ RepV K io F x v
  | [], _, _, _, h, e => by simp at e
  | y :: xs, vs, 0, x, h, e => by
    obtain ⟨v, r, e1, h1, h2⟩ := h
    have : y = x := by simpa using e
    subst this
    subst e1
    exact ⟨v, rfl, h1⟩
  | y :: xs, vs, i + 1, x, h, e => by
    obtain ⟨v, r, e1, h1, h2⟩ := h
    subst e1
    obtain ⟨u, hu, hr⟩ := RepVs.get (i := i) h2 (by simpa using e)
    exact ⟨u, by simpa using hu, hr⟩
theorem RepVs.pure : ∀ {xs : List P} {vs : List V}, RepVs K io F (xs.map Vl.p) vs ↔ RepL K F xs vs
  | [], _ => Iff.rfl
  | x :: xs, vs => by
    constructor
    · rintro ⟨v, r, e1, h1, h2⟩
      exact ⟨v, r, e1, h1, RepVs.pure.mp h2⟩
    · rintro ⟨v, r, e1, h1, h2⟩
      exact ⟨v, r, e1, h1, RepVs.pure.mpr h2⟩

def rd (S : Sto) : Vl → Option P
  | .p x => some x
  | .c k => match S[k]? with
    | some (.lst xs) => some (.lst xs)
    | some (.dct ks xs) => some (.dct ks xs)
    | some (.fz x) => some x
    | some (.tup xs) => some (.tup xs)
    | some (.tpz xs) => some (.tup xs)
    | _ => none
def RepR (K : PySem.W.Frag) (F H : Hp) : P → V → Prop
  | .lst xs, v => ∃ a vs, v = .ref a ∧ H a = some (.lst vs) ∧ RepL K F xs vs
  | .dct ks xs, v => ∃ a kvs, v = .ref a ∧ H a = some (.dK kvs) ∧ RepL K F ks (kvs.map fun q => kV q.1) ∧ RepL K F xs (kvs.map (·.2))
  | x, v => Rep K F x v
theorem Rep.r (e : Same F H) {x : P} {v : V} (h : Rep K F x v) : RepR K F H x v := by
  cases x with
  | lst xs =>
    obtain ⟨a, vs, e1, h1, h2⟩ := h
    exact ⟨a, vs, e1, e _ _ h1, h2⟩
  | dct ks xs =>
    obtain ⟨a, kvs, e1, h1, h2, h3⟩ := h
    exact ⟨a, kvs, e1, e _ _ h1, h2, h3⟩
  | _ => exact h
theorem RepR.now (e : Same F H) {x : P} {v : V} (h : RepR K F H x v) : Rep K H x v := by
  cases x with
  | lst xs =>
    obtain ⟨a, vs, e1, h1, h2⟩ := h
    exact ⟨a, vs, e1, h1, RepL.mono e h2⟩
  | dct ks xs =>
    obtain ⟨a, kvs, e1, h1, h2, h3⟩ := h
    exact ⟨a, kvs, e1, h1, RepL.mono e h2, RepL.mono e h3⟩
  | non => exact h
  | bl _ => exact h
  | int _ => exact h
  | str _ => exact h
  | tup _ => exact Rep.mono e (x := .tup _) h
  | obj _ _ _ => exact Rep.mono e (x := .obj _ _ _) h
  | ty _ => exact h
  | glo _ => exact h
  | raw _ => exact h
  | rwp _ _ => exact Rep.mono e (x := .rwp _ _) h
  | scr _ => exact Rep.mono e (x := .scr _) h
theorem Sta.rd (st : Sta K io F S H) {d : Vl} {v : V} {x : P} (h : RepV K io F d v) (e : rd S d = some x) : RepR K F H x v := by
  cases d with
  | p y =>
    have e' : y = x := Option.some.inj e
    subst e'
    exact Rep.r st.sub h
  | c k =>
    obtain ⟨a, ha, rfl⟩ := h
    have e : (match S[k]? with
      | some (.lst xs) => some (P.lst xs)
      | some (.dct ks xs) => some (P.dct ks xs)
      | some (.fz x) => some x
      | some (.tup xs) => some (P.tup xs)
      | some (.tpz xs) => some (P.tup xs)
      | _ => none) = some x := e
    cases hk : S[k]? with
    | none => rw [hk] at e; cases e
    | some c =>
      rw [hk] at e
      cases c with
      | lst xs =>
        have e' : P.lst xs = x := Option.some.inj e
        subst e'
        obtain ⟨b, vs, hb, _, hH, hr⟩ := st.cel k _ hk
        rw [ha] at hb
        cases hb
        exact ⟨a, vs, rfl, hH, hr⟩
      | dct ks xs =>
        have e' : P.dct ks xs = x := Option.some.inj e
        subst e'
        obtain ⟨b, vs, hb, _, hH, hr, hr2⟩ := st.cel k _ hk
        rw [ha] at hb
        cases hb
        exact ⟨a, vs, rfl, hH, hr, hr2⟩
      | fz y =>
        have e' : y = x := Option.some.inj e
        subst e'
        obtain ⟨b, hb, hr⟩ := st.cel k _ hk
        rw [ha] at hb
        cases hb
        exact Rep.r st.sub hr
      | tup xs =>
        have e' : P.tup xs = x := Option.some.inj e
        subst e'
        obtain ⟨b, vs, hb, hF, hr⟩ := st.cel k _ hk
        rw [ha] at hb
        cases hb
        exact ⟨a, vs, rfl, SqT.of hF, hr⟩
      | tpz xs =>
        have e' : P.tup xs = x := Option.some.inj e
        subst e'
        obtain ⟨b, vs, o, hb, hF, _, _, hr⟩ := st.cel k _ hk
        rw [ha] at hb
        cases hb
        exact ⟨a, vs, rfl, .inl (.inr ⟨o, hF⟩), hr⟩
      | _ => cases e
theorem upd_same_of {p : Addr} {o : HO} (hp : H p = none) : Same H (upd H p o) := fun b u e => by
  rw [upd_ne (ne_of_none e hp)]
  exact e
theorem app_none {io T : Io} {k : Nat} (z : io[k]? = some none) : (io ++ T)[k]? = some none := by
  rw [List.getElem?_append_left (List.getElem?_eq_some_iff.mp z).1]
  exact z
theorem CellAt.mono {io' : Io} {F' : Hp} {k : Nat} {c : Cell} (hi : ∀ (k : Nat) (a : Addr), io[k]? = some (some a) → io'[k]? = some (some a)) (hF : Same F F')
    (hn : ∀ a, io[k]? = some (some a) → F a = none → F' a = none) (hH : ∀ a o, io[k]? = some (some a) → H a = some o → H1 a = some o) (h : CellAt K io F H k c) (hres : io[k]? = some none → io'[k]? = some none := by first | exact fun z => z | exact fun z => app_none z) : CellAt K io' F' H1 k c := by
  cases c with
  | lst xs =>
    obtain ⟨a, vs, h1, h2, h3, h4⟩ := h
    exact ⟨a, vs, hi _ _ h1, hn _ h1 h2, hH _ _ h1 h3, RepL.mono hF h4⟩
  | lsv ks =>
    obtain ⟨a, vs, h1, h2, h3, h4, h5⟩ := h
    exact ⟨a, vs, hi _ _ h1, hn _ h1 h2, hH _ _ h1 h3, RepVs.mono hi hF h4, h5⟩
  | dct ks xs =>
    obtain ⟨a, vs, h1, h2, h3, h4, h5⟩ := h
    exact ⟨a, vs, hi _ _ h1, hn _ h1 h2, hH _ _ h1 h3, RepL.mono hF h4, RepL.mono hF h5⟩
  | ins cc ns xs =>
    obtain ⟨a, dx, gs, h1, h2, h3, h4, h5, h6⟩ := h
    exact ⟨a, dx, gs, hi _ _ h1, hn _ h1 h2, hH _ _ h1 h3, h4, RepVs.mono hi hF h5, h6⟩
  | fz x =>
    obtain ⟨a, h1, h2⟩ := h
    exact ⟨a, hi _ _ h1, Rep.mono hF h2⟩
  | res => exact hres h
  | tup xs =>
    obtain ⟨a, vs, h1, h2, h3⟩ := h
    exact ⟨a, vs, hi _ _ h1, hF _ _ h2, RepL.mono hF h3⟩
  | tpz xs =>
    obtain ⟨a, vs, o, h1, h2, h3, h4, h5⟩ := h
    exact ⟨a, vs, o, hi _ _ h1, hF _ _ h2, h3, h4, RepL.mono hF h5⟩
  | dcT ks xs =>
    obtain ⟨a, ws, h1, h2, h3, h4, h5⟩ := h
    exact ⟨a, ws, hi _ _ h1, hn _ h1 h2, hH _ _ h1 h3, h4, RepL.mono hF h5⟩
  | dcN η ks xs =>
    obtain ⟨a, es, h1, h2, h3, h4, h5, h6⟩ := h
    exact ⟨a, es, hi _ _ h1, hn _ h1 h2, hH _ _ h1 h3, h4, RepL.mono hF h5, RepL.mono hF h6⟩
  | tbl p q =>
    obtain ⟨h1, h2, ps, h3, h4, h5⟩ := h
    refine ⟨hi _ _ h1, hn _ h1 h2, ps, hH _ _ h1 h3, h4, fun pos cv e => ?_⟩
    obtain ⟨c, e1, e2⟩ := h5 pos cv e
    exact ⟨c, e1, hF _ _ e2⟩
  | dvs xs =>
    obtain ⟨a, o, η, es, h1, h2, h3⟩ := h
    exact ⟨a, o, η, es, hi _ _ h1, hF _ _ h2, RepL.mono hF h3⟩
  | tblC p q c' =>
    obtain ⟨⟨h1, h2, ps, h3, h4, h5⟩, h6⟩ := h
    refine ⟨⟨hi _ _ h1, hn _ h1 h2, ps, hH _ _ h1 h3, h4, fun pos cv e => ?_⟩, hF _ _ h6⟩
    obtain ⟨c, e1, e2⟩ := h5 pos cv e
    exact ⟨c, e1, hF _ _ e2⟩
theorem CellAt.there {k : Nat} {c : Cell} (h : CellAt K io F H k c) (hc : ∀ x, c ≠ .fz x) (hc2 : c ≠ .res) (hc3 : ∀ xs, c ≠ .tup xs) (hc4 : ∀ xs, c ≠ .dvs xs ∧ c ≠ .tpz xs) : ∃ a o, io[k]? = some (some a) ∧ F a = none ∧ H a = some o := by
  cases c with
  | lst xs => obtain ⟨a, vs, h1, h2, h3, h4⟩ := h; exact ⟨a, _, h1, h2, h3⟩
  | lsv ks => obtain ⟨a, vs, h1, h2, h3, h4⟩ := h; exact ⟨a, _, h1, h2, h3⟩
  | dct ks xs => obtain ⟨a, vs, h1, h2, h3, h4⟩ := h; exact ⟨a, _, h1, h2, h3⟩
  | ins cc ns xs => obtain ⟨a, dx, vs, h1, h2, h3, h4⟩ := h; exact ⟨a, _, h1, h2, h3⟩
  | fz x => exact absurd rfl (hc x)
  | res => exact absurd rfl hc2
  | tup xs => exact absurd rfl (hc3 xs)
  | dcT ks xs => obtain ⟨a, vs, h1, h2, h3, h4⟩ := h; exact ⟨a, _, h1, h2, h3⟩
  | dcN η ks xs => obtain ⟨a, es, h1, h2, h3, h4⟩ := h; exact ⟨a, _, h1, h2, h3⟩
  | tbl x q => obtain ⟨h1, h2, ps, h3, h4⟩ := h; exact ⟨lamT K x, _, h1, h2, h3⟩
  | dvs xs => exact absurd rfl (hc4 xs).1
  | tpz xs => exact absurd rfl (hc4 xs).2
  | tblC x q c => obtain ⟨⟨h1, h2, ps, h3, h4⟩, _⟩ := h; exact ⟨lamT K x, _, h1, h2, h3⟩
theorem Sta.froze (st : Sta K io F S H) {p : Addr} {o : HO} (hp : H p = none) : Sta K io (upd F p o) S (upd H p o) ∧ Nxt io F H io (upd F p o) (upd H p o) := by
  have hF : F p = none := Same.free st.sub hp
  refine ⟨⟨st.len, st.inj, fun b u e => ?_, fun k a e z => ?_, fun k c e => ?_⟩, ⟨fun _ _ h => h, upd_same_of hF, fun b u e _ => ?_, fun _ _ h => .inl h, fun b e => ?_, fun b e => ?_⟩⟩
  · by_cases hb : b = p
    · subst hb
      rw [upd_same] at e ⊢
      exact e
    · rw [upd_ne hb] at e ⊢
      exact st.sub _ _ e
  · have q := st.trk k a e
    by_cases hb : a = p
    · subst hb; exact q hp
    · rw [upd_ne hb] at z; exact q z
  · have h := st.cel k c e
    by_cases hc : (∃ x, c = .fz x) ∨ c = .res ∨ (∃ xs, c = .tup xs) ∨ ∃ xs, c = .dvs xs ∨ c = .tpz xs
    · rcases hc with ⟨x, rfl⟩ | rfl | ⟨xs, rfl⟩ | ⟨xs, rfl | rfl⟩
      · obtain ⟨a, h1, h2⟩ := h
        exact ⟨a, h1, Rep.mono (upd_same_of hF) h2⟩
      · exact h
      · obtain ⟨a, vs, h1, h2, h3⟩ := h
        exact ⟨a, vs, h1, upd_same_of hF _ _ h2, RepL.mono (upd_same_of hF) h3⟩
      · obtain ⟨a, o, η, es, h1, h2, h3⟩ := h
        exact ⟨a, o, η, es, h1, upd_same_of hF _ _ h2, RepL.mono (upd_same_of hF) h3⟩
      · obtain ⟨a, vs, o, h1, h2, h3, h4, h5⟩ := h
        exact ⟨a, vs, o, h1, upd_same_of hF _ _ h2, h3, h4, RepL.mono (upd_same_of hF) h5⟩
    · have hc1 : ∀ x, c ≠ .fz x := fun x z => hc (.inl ⟨x, z⟩)
      have hc2 : c ≠ .res := fun z => hc (.inr (.inl z))
      obtain ⟨a, ob, ha, hn, hh⟩ := h.there hc1 hc2 (fun xs z => hc (.inr (.inr (.inl ⟨xs, z⟩)))) (fun xs => ⟨fun z => hc (.inr (.inr (.inr ⟨xs, .inl z⟩))), fun z => hc (.inr (.inr (.inr ⟨xs, .inr z⟩)))⟩)
      have nap : a ≠ p := ne_of_none hh hp
      refine h.mono (fun _ _ z => z) (upd_same_of hF) (fun b hb hn => ?_) fun b u hb hu => ?_
      · rw [ha] at hb; cases hb
        rw [upd_ne nap]; exact hn
      · rw [ha] at hb; cases hb
        rw [upd_ne nap]; exact hu
  · rw [upd_ne (ne_of_none e hp)]
    exact e
  · by_cases hb : b = p
    · subst hb; exact hp
    · rw [upd_ne hb] at e; exact e
  · by_cases hb : b = p
    · subst hb; exact .inr (.inl hp)
    · rw [upd_ne hb] at e; exact .inl e
theorem Sta.push (st : Sta K io F S H) {p : Addr} {o : HO} {c : Cell} (hp : H p = none) (hc : CellAt K (io ++ [some p]) F (upd H p o) S.length c) :
    Sta K (io ++ [some p]) F (S ++ [c]) (upd H p o) ∧ Nxt io F H (io ++ [some p]) F (upd H p o) := by
  have hF : F p = none := Same.free st.sub hp
  have hi : ∀ (k : Nat) (a : Addr), io[k]? = some (some a) → (io ++ [some p])[k]? = some (some a) := fun k a e => by
    rw [List.getElem?_append_left (List.getElem?_eq_some_iff.mp e).1]
    exact e
  have back : ∀ (k : Nat) (a : Addr), (io ++ [some p])[k]? = some (some a) → io[k]? = some (some a) ∨ (k = io.length ∧ a = p) := fun k a e => by
    rw [List.getElem?_append] at e
    split at e
    · exact .inl e
    · rename_i hk
      have hk2 : k - io.length = 0 := by
        have := (List.getElem?_eq_some_iff.mp e).1
        simp at this
        omega
      rw [hk2] at e
      have e' : p = a := by simpa using e
      exact .inr ⟨by omega, e'.symm⟩
  -- a live cell is not at p
  refine ⟨⟨by rw [List.length_append, List.length_append, st.len]; rfl, fun j k a h1 h2 => ?_, fun b u e => ?_, fun k a e z => ?_, fun k d e => ?_⟩, ⟨hi, fun _ _ h => h, fun b u e _ => ?_, fun k a h => ?_, fun b e => ?_, fun b e => .inl e⟩⟩
  · rcases back j a h1 with z | ⟨rfl, z⟩
    · rcases back k a h2 with y | ⟨rfl, y⟩
      · exact st.inj j k a z y
      · subst y; exact absurd hp (st.trk j _ z)
    · rcases back k a h2 with y | ⟨rfl, y⟩
      · subst z; exact absurd hp (st.trk k _ y)
      · rfl
  · rw [upd_ne (ne_of_none (st.sub _ _ e) hp)]
    exact st.sub _ _ e
  · rcases back k a e with y | ⟨rfl, y⟩
    · have q := st.trk k a y
      by_cases hb : a = p
      · subst hb; exact q hp
      · rw [upd_ne hb] at z; exact q z
    · subst y; rw [upd_same] at z; cases z
  · rw [List.getElem?_append] at e
    split at e
    · have h := st.cel k d e
      by_cases hd : (∃ x, d = .fz x) ∨ d = .res ∨ (∃ xs, d = .tup xs) ∨ ∃ xs, d = .dvs xs ∨ d = .tpz xs
      · rcases hd with ⟨x, rfl⟩ | rfl | ⟨xs, rfl⟩ | ⟨xs, rfl | rfl⟩
        · obtain ⟨a, h1, h2⟩ := h
          exact ⟨a, hi _ _ h1, h2⟩
        · exact app_none h
        · obtain ⟨a, vs, h1, h2, h3⟩ := h
          exact ⟨a, vs, hi _ _ h1, h2, h3⟩
        · obtain ⟨a, o, η, es, h1, h2, h3⟩ := h
          exact ⟨a, o, η, es, hi _ _ h1, h2, h3⟩
        · obtain ⟨a, vs, o, h1, h2, h3, h4, h5⟩ := h
          exact ⟨a, vs, o, hi _ _ h1, h2, h3, h4, h5⟩
      · obtain ⟨a, ob, ha, hn, hh⟩ := h.there (fun x z => hd (.inl ⟨x, z⟩)) (fun z => hd (.inr (.inl z))) (fun xs z => hd (.inr (.inr (.inl ⟨xs, z⟩)))) (fun xs => ⟨fun z => hd (.inr (.inr (.inr ⟨xs, .inl z⟩))), fun z => hd (.inr (.inr (.inr ⟨xs, .inr z⟩)))⟩)
        have nap : a ≠ p := ne_of_none hh hp
        refine h.mono hi (fun _ _ z => z) (fun _ _ hn => hn) fun b u hb hu => ?_
        rw [ha] at hb; cases hb
        rw [upd_ne nap]; exact hu
    · rename_i hk
      have hk2 : k - S.length = 0 := by
        have := (List.getElem?_eq_some_iff.mp e).1
        simp at this
        omega
      rw [hk2] at e
      have e' : c = d := by simpa using e
      subst e'
      have : k = S.length := by omega
      subst this
      exact hc
  · rw [upd_ne (ne_of_none e hp)]
    exact e
  · rcases back k a h with z | ⟨_, rfl⟩
    · exact .inl z
    · exact .inr hp
  · by_cases hb : b = p
    · subst hb; exact hp
    · rw [upd_ne hb] at e; exact e
theorem Sta.side (st : Sta K io F S H) {p : Addr} {o : HO} (hp : ∀ k : Nat, io[k]? ≠ some (some p)) (hF : F p = none) : Sta K io F S (upd H p o) := by
  refine ⟨st.len, st.inj, fun b u e => ?_, fun k a e z => ?_, fun k c e => ?_⟩
  · rw [upd_ne (ne_of_none e hF)]
    exact st.sub _ _ e
  · rw [upd_ne (fun q => by subst q; exact hp k e)] at z
    exact st.trk k a e z
  · refine (st.cel k c e).mono (fun _ _ z => z) (fun _ _ z => z) (fun _ _ hn => hn) fun b u hb hu => ?_
    rw [upd_ne (fun q => by subst q; exact hp k hb)]
    exact hu
def _root_.Mir.nv (S : Sto) : Vl → Vl
  | .p x => .p x
  | .c k => (match S[k]? with
    | some (.fz x) => .p x
    | some (.tup xs) => .p (.tup xs)
    | some (.tpz xs) => .p (.tup xs)
    | _ => .c k)
theorem Sta.nv (st : Sta K io F S H) {d : Vl} {v : V} (r : RepV K io F d v) : RepV K io F (Mir.nv S d) v := by
  cases d with
  | p x => exact r
  | c k =>
    unfold Mir.nv
    dsimp only
    split
    · rename_i x hk
      obtain ⟨a, ha, rfl⟩ := r
      obtain ⟨b, hb, hr⟩ := st.cel k _ hk
      rw [ha] at hb
      cases hb
      exact hr
    · rename_i xs hk
      obtain ⟨a, ha, rfl⟩ := r
      obtain ⟨b, vs, hb, hF, hr⟩ := st.cel k _ hk
      rw [ha] at hb
      cases hb
      exact ⟨a, vs, rfl, SqT.of hF, hr⟩
    · rename_i xs hk
      obtain ⟨a, ha, rfl⟩ := r
      obtain ⟨b, vs, o, hb, hF, _, _, hr⟩ := st.cel k _ hk
      rw [ha] at hb
      cases hb
      exact ⟨a, vs, rfl, .inl (.inr ⟨o, hF⟩), hr⟩
    · exact r
theorem Sta.notIn (st : Sta K io F S H) {p : Addr} (hp : H p = none) : ∀ k : Nat, io[k]? ≠ some (some p) := fun k e => st.trk k p e hp
end
end Mir

namespace Mir
open PySem L2
section
variable {K : PySem.W.Frag} {io io1 io2 : Io} {F F1 F2 H H1 H2 : Hp} {S : Sto}
theorem Sta.write (st : Sta K io F S H) {k : Nat} {a : Addr} {o : HO} {c : Cell} (ha : io[k]? = some (some a)) (hF : F a = none)
    (hc : CellAt K io F (upd H a o) k c) : Sta K io F (S.set k c) (upd H a o) ∧ Nxt io F H io F (upd H a o) := by
  refine ⟨⟨by rw [List.length_set]; exact st.len, st.inj, fun b u e => ?_, fun j b e z => ?_, fun j d e => ?_⟩, ⟨fun _ _ h => h, fun _ _ h => h, fun b u e n => ?_, fun _ _ h => .inl h, fun b e => ?_, fun b e => .inl e⟩⟩
  · rw [upd_ne (ne_of_none e hF)]
    exact st.sub _ _ e
  · by_cases hb : b = a
    · subst hb; rw [upd_same] at z; cases z
    · rw [upd_ne hb] at z; exact st.trk j b e z
  · by_cases hj : j = k
    · subst hj
      rw [List.getElem?_set_self (by
        have := (List.getElem?_eq_some_iff.mp ha).1
        rw [st.len] at this
        exact this)] at e
      cases e
      exact hc
    · rw [List.getElem?_set_ne (Ne.symm hj)] at e
      refine (st.cel j d e).mono (fun _ _ z => z) (fun _ _ z => z) (fun _ _ hn => hn) fun b u hb hu => ?_
      have nb : b ≠ a := fun q => by subst q; exact hj (st.inj j k _ hb ha)
      rw [upd_ne nb]; exact hu
  · rw [upd_ne (fun q => by subst q; exact n k ha)]
    exact e
  · by_cases hb : b = a
    · subst hb; rw [upd_same] at e; cases e
    · rw [upd_ne hb] at e; exact e
theorem Sta.freeze (st : Sta K io F S H) {k : Nat} {a : Addr} {o : HO} {x : P} (ha : io[k]? = some (some a)) (hF : F a = none) (hH : H a = some o) (hx : Rep K (upd F a o) x (.ref a)) :
    Sta K io (upd F a o) (S.set k (.fz x)) H ∧ Nxt io F H io (upd F a o) H := by
  refine ⟨⟨by rw [List.length_set]; exact st.len, st.inj, fun b u e => ?_, st.trk, fun j d e => ?_⟩, ⟨fun _ _ h => h, upd_same_of hF, fun b u e n => e, fun _ _ h => .inl h, fun b e => e, fun b e => by
    by_cases hb : b = a
    · subst hb; exact .inr (.inr ⟨k, ha⟩)
    · rw [upd_ne hb] at e; exact .inl e⟩⟩
  · by_cases hb : b = a
    · subst hb; rw [upd_same] at e; cases e; exact hH
    · rw [upd_ne hb] at e; exact st.sub _ _ e
  · by_cases hj : j = k
    · subst hj
      rw [List.getElem?_set_self (by
        have := (List.getElem?_eq_some_iff.mp ha).1
        rw [st.len] at this
        exact this)] at e
      cases e
      exact ⟨a, ha, hx⟩
    · rw [List.getElem?_set_ne (Ne.symm hj)] at e
      refine (st.cel j d e).mono (fun _ _ z => z) (upd_same_of hF) (fun b hb hn => ?_) fun b u hb hu => hu
      rw [upd_ne (fun q => by subst q; exact hj (st.inj j k _ hb ha))]
      exact hn
theorem Sta.lay (st : Sta K io F S H) {p : Addr} {o : HO} {c : Cell} (hp : ∀ k : Nat, io[k]? ≠ some (some p)) (hF : F p = none) (hH : H p = some o) (hc : CellAt K (io ++ [some p]) F H S.length c) :
    Sta K (io ++ [some p]) F (S ++ [c]) H ∧ ∀ (k : Nat) (a : Addr), io[k]? = some (some a) → (io ++ [some p])[k]? = some (some a) := by
  have hi : ∀ (k : Nat) (a : Addr), io[k]? = some (some a) → (io ++ [some p])[k]? = some (some a) := fun k a e => by
    rw [List.getElem?_append_left (List.getElem?_eq_some_iff.mp e).1]
    exact e
  have back : ∀ (k : Nat) (a : Addr), (io ++ [some p])[k]? = some (some a) → io[k]? = some (some a) ∨ (k = io.length ∧ a = p) := fun k a e => by
    rw [List.getElem?_append] at e
    split at e
    · exact .inl e
    · rename_i hk
      have hk2 : k - io.length = 0 := by
        have := (List.getElem?_eq_some_iff.mp e).1
        simp at this
        omega
      rw [hk2] at e
      have e' : p = a := by simpa using e
      exact .inr ⟨by omega, e'.symm⟩
  refine ⟨⟨by rw [List.length_append, List.length_append, st.len]; rfl, fun j k a h1 h2 => ?_, st.sub, fun k a e z => ?_, fun k d e => ?_⟩, hi⟩
  · rcases back j a h1 with z | ⟨rfl, z⟩
    · rcases back k a h2 with y | ⟨rfl, y⟩
      · exact st.inj j k a z y
      · subst y; exact absurd z (hp j)
    · rcases back k a h2 with y | ⟨rfl, y⟩
      · subst z; exact absurd y (hp k)
      · rfl
  · rcases back k a e with y | ⟨rfl, y⟩
    · exact st.trk k a y z
    · subst y; rw [hH] at z; cases z
  · rw [List.getElem?_append] at e
    split at e
    · exact (st.cel k d e).mono hi (fun _ _ z => z) (fun _ _ hn => hn) fun _ _ _ hu => hu
    · rename_i hk
      have hk2 : k - S.length = 0 := by
        have := (List.getElem?_eq_some_iff.mp e).1
        simp at this
        omega
      rw [hk2] at e
      have e' : c = d := by simpa using e
      subst e'
      have : k = S.length := by omega
      subst this
      exact hc
theorem RepVs.cut {n : Nat} : ∀ {xs : List Vl} {vs : List V}, (∀ j, Vl.c j ∈ xs → j < n) → RepVs K io F xs vs → RepVs K (io.take n) F xs vs
  | [], _, _, h => h
  | x :: xs, vs, hn, ⟨v, r, e1, h1, h2⟩ => by
    refine ⟨v, r, e1, ?_, RepVs.cut (fun j hj => hn j (List.mem_cons_of_mem _ hj)) h2⟩
    cases x with
    | p y => exact h1
    | c j =>
      obtain ⟨a, ha, hv⟩ := h1
      exact ⟨a, by rw [List.getElem?_take_of_lt (hn j List.mem_cons_self)]; exact ha, hv⟩
theorem Sta.cut (st : Sta K io F S H) (n : Nat) : Sta K (io.take n) F (S.take n) H := by
  have hb : ∀ (k : Nat) (a : Addr), (io.take n)[k]? = some (some a) → io[k]? = some (some a) := fun k a e => by
    rw [List.getElem?_take] at e
    split at e
    · exact e
    · cases e
  refine ⟨by rw [List.length_take, List.length_take, st.len], fun j k a h1 h2 => st.inj j k a (hb _ _ h1) (hb _ _ h2), st.sub, fun k a e => st.trk k a (hb _ _ e), fun k c e => ?_⟩
  have hk : k < n := by
    rw [List.getElem?_take] at e
    split at e
    · assumption
    · cases e
  rw [List.getElem?_take_of_lt hk] at e
  have h := st.cel k c e
  have hi : ∀ a, io[k]? = some (some a) → (io.take n)[k]? = some (some a) := fun a z => by rw [List.getElem?_take_of_lt hk]; exact z
  cases c with
  | lst xs =>
    obtain ⟨a, vs, h1, h2, h3, h4⟩ := h
    exact ⟨a, vs, hi _ h1, h2, h3, h4⟩
  | lsv ks =>
    obtain ⟨a, vs, h1, h2, h3, h4, h5⟩ := h
    exact ⟨a, vs, hi _ h1, h2, h3, RepVs.cut (fun j hj => Nat.lt_trans (h5 j hj) hk) h4, h5⟩
  | dct ks xs =>
    obtain ⟨a, vs, h1, h2, h3, h4, h5⟩ := h
    exact ⟨a, vs, hi _ h1, h2, h3, h4, h5⟩
  | ins cc ns xs =>
    obtain ⟨a, dx, gs, h1, h2, h3, h4, h5, h6⟩ := h
    exact ⟨a, dx, gs, hi _ h1, h2, h3, h4, RepVs.cut (fun j hj => Nat.lt_trans (h6 j hj) hk) h5, h6⟩
  | fz x =>
    obtain ⟨a, h1, h2⟩ := h
    exact ⟨a, hi _ h1, h2⟩
  | res =>
    show (io.take n)[k]? = some none
    rw [List.getElem?_take_of_lt hk]
    exact h
  | tup xs =>
    obtain ⟨a, vs, h1, h2, h3⟩ := h
    exact ⟨a, vs, hi _ h1, h2, h3⟩
  | tpz xs =>
    obtain ⟨a, vs, o, h1, h2, h3, h4, h5⟩ := h
    exact ⟨a, vs, o, hi _ h1, h2, h3, h4, h5⟩
  | dcT ks xs =>
    obtain ⟨a, ws, h1, h2, h3, h4, h5⟩ := h
    exact ⟨a, ws, hi _ h1, h2, h3, h4, h5⟩
  | dcN η ks xs =>
    obtain ⟨a, es, h1, h2, h3, h4, h5, h6⟩ := h
    exact ⟨a, es, hi _ h1, h2, h3, h4, h5, h6⟩
  | tbl p q =>
    obtain ⟨h1, h2, h3⟩ := h
    exact ⟨hi _ h1, h2, h3⟩
  | dvs xs =>
    obtain ⟨a, o, η, es, h1, h2, h3⟩ := h
    exact ⟨a, o, η, es, hi _ h1, h2, h3⟩
  | tblC p q c =>
    obtain ⟨⟨h1, h2, h3⟩, h4⟩ := h
    exact ⟨⟨hi _ h1, h2, h3⟩, h4⟩
theorem Nxt.cut {n : Nat} (hn : io.length = n) (a : Nxt io F H io1 F1 H1) : Nxt io F H (io1.take n) F1 H1 where
  han := fun k x e => by
    have hk : k < n := by
      rw [← hn]
      exact (List.getElem?_eq_some_iff.mp e).1
    rw [List.getElem?_take_of_lt hk]
    exact a.han k x e
  fr := a.fr
  out := a.out
  new := fun k x e => by
    rw [List.getElem?_take] at e
    split at e
    · exact a.new k x e
    · cases e
  stay := a.stay
  nf := a.nf
theorem RepV.cut {n : Nat} {d : Vl} {v : V} (hd : ∀ j, d = .c j → j < n) (h : RepV K io F d v) : RepV K (io.take n) F d v := by
  cases d with
  | p y => exact h
  | c j =>
    obtain ⟨a, ha, hv⟩ := h
    exact ⟨a, by rw [List.getElem?_take_of_lt (hd j rfl)]; exact ha, hv⟩
end

def XRep (K : PySem.W.Frag) (F H : Hp) : XD → Option Addr → Prop
  | none, d => d = none
  | some (ns, xs), d => ∃ a gs, d = some a ∧ F a = some (.xd gs) ∧ gs.map (·.1) = ns ∧ RepL K F xs (gs.map (·.2))
def RG {A B : Type} (K : PySem.W.Frag) (R : Io → Hp → A → B → Prop) (r : Res A) (io : Io) (F H : Hp) (Q : B → Hp → Prop) (W : XK) : Prop := match r with
  | .ok d S' => ∀ io' F' H' v, Nxt io F H io' F' H' → Sta K io' F' S' H' → R io' F' d v → Q v H'
  | .exc c x S' => ∀ io' F' H' d, Nxt io F H io' F' H' → Sta K io' F' S' H' → XRep K F' H' x d → W (.ref (He.ga K c)) d H'
  | .bad => False
section
variable {K : PySem.W.Frag} {io : Io} {F H : Hp} {S : Sto} {A B C D : Type} {R : Io → Hp → A → B → Prop} {R' : Io → Hp → C → D → Prop} {Q : D → Hp → Prop} {Q1 : B → Hp → Prop} {W : XK}
theorem RG.step {io1 : Io} {F1 H1 : Hp} {r : Res A} {Q : B → Hp → Prop} (nx : Nxt io F H io1 F1 H1) (h : RG K R r io F H Q W) : RG K R r io1 F1 H1 Q W := by
  cases r with
  | ok a S => exact fun io' F' H' v n s rp => h io' F' H' v (nx.trans n) s rp
  | exc c x S => exact fun io' F' H' d n s rp => h io' F' H' d (nx.trans n) s rp
  | bad => exact h
theorem RG.bind {r : Res A} {f : A → Sto → Res C} (h : RG K R' (r.bind f) io F H Q W)
    (k : ∀ a S1 io1 F1 H1 v, r = .ok a S1 → Nxt io F H io1 F1 H1 → Sta K io1 F1 S1 H1 → R io1 F1 a v → RG K R' (f a S1) io1 F1 H1 Q W → Q1 v H1) : RG K R r io F H Q1 W := by
  cases r with
  | ok a S => exact fun io' F' H' v n s rp => k a S io' F' H' v rfl n s rp (RG.step n h)
  | exc c x S => exact h
  | bad => exact h
theorem RG.val {d : A} {v : B} {Q : B → Hp → Prop} (st : Sta K io F S H) (hr : R io F d v) (h : RG K R (.ok d S) io F H Q W) : Q v H := h io F H v Nxt.refl st hr
end
abbrev RepA (K : PySem.W.Frag) : Io → Hp → Vl → V → Prop := fun io F d v => RepV K io F d v
abbrev RepAs (K : PySem.W.Frag) : Io → Hp → List Vl → List V → Prop := fun io F d v => RepVs K io F d v

def RepO (K : PySem.W.Frag) (io : Io) (F : Hp) : Option Vl → Option V → Prop
  | none, _ => True
  | some d, o => ∃ v, o = some v ∧ RepV K io F d v
def Env (K : PySem.W.Frag) (io : Io) (F : Hp) : En → St → Prop
  | [], s => s = []
  | d :: ds, s => ∃ o r, s = o :: r ∧ RepO K io F d o ∧ Env K io F ds r
section
variable {K : PySem.W.Frag} {io io' : Io} {F F' H H' : Hp}
theorem RepO.mono (hi : ∀ (k : Nat) (a : Addr), io[k]? = some (some a) → io'[k]? = some (some a)) (e : Same F F') : ∀ {d : Option Vl} {o : Option V}, RepO K io F d o → RepO K io' F' d o
  | none, _, _ => trivial
  | some _, _, ⟨v, e1, h⟩ => ⟨v, e1, h.mono hi e⟩
theorem Env.mono (hi : ∀ (k : Nat) (a : Addr), io[k]? = some (some a) → io'[k]? = some (some a)) (e : Same F F') : ∀ {ds : En} {s : St}, Env K io F ds s → Env K io' F' ds s
  | [], _, h => h
  | d :: ds, _, ⟨o, r, e1, h1, h2⟩ => ⟨o, r, e1, h1.mono hi e, Env.mono hi e h2⟩
theorem Env.nxt (n : Nxt io F H io' F' H') {ds : En} {s : St} (h : Env K io F ds s) : Env K io' F' ds s := h.mono n.han n.fr
theorem Env.get : ∀ {ds : En} {s : St} {i : Nat} {d : Vl}, Env K io F ds s → ds[i]? = some (some d) → ∃ v, s[i]? = some (some v) ∧ RepV K io F d v
  | [], _, _, _, _, e => by simp at e
  | x :: ds, s, 0, d, ⟨o, r, e1, h1, h2⟩, e => by
    have e' : x = some d := by simpa using e
    subst e'
    obtain ⟨v, e2, h3⟩ := h1
    subst e1; subst e2
    exact ⟨v, rfl, h3⟩
  | x :: ds, s, i + 1, d, ⟨o, r, e1, h1, h2⟩, e => by
    subst e1
    obtain ⟨v, hv, hr⟩ := Env.get (i := i) h2 (by simpa using e)
    exact ⟨v, by simpa using hv, hr⟩
theorem Env.set {d : Vl} {v : V} (hr : RepV K io F d v) : ∀ {ds : En} {s : St} (i : Nat), Env K io F ds s → Env K io F (ds.set i (some d)) (s.set i (some v))
  | [], _, _, h => by
    have h' : _ = _ := h
    subst h'
    exact rfl
  | x :: ds, s, 0, ⟨o, r, e1, h1, h2⟩ => by
    subst e1
    exact ⟨some v, r, rfl, ⟨v, rfl, hr⟩, h2⟩
  | x :: ds, s, i + 1, ⟨o, r, e1, h1, h2⟩ => by
    subst e1
    exact ⟨o, _, rfl, h1, Env.set hr i h2⟩
theorem Env.unset : ∀ {ds : En} {s : St} (i : Nat) (o : Option V), Env K io F ds s → Env K io F (ds.set i none) (s.set i o)
  | [], _, _, _, h => by
    have h' : _ = _ := h
    subst h'
    exact rfl
  | x :: ds, s, 0, o', ⟨o, r, e1, h1, h2⟩ => by
    subst e1
    exact ⟨o', r, rfl, trivial, h2⟩
  | x :: ds, s, i + 1, o', ⟨o, r, e1, h1, h2⟩ => by
    subst e1
    exact ⟨o, _, rfl, h1, Env.unset i o' h2⟩
theorem Env.start : ∀ {ds : List Vl} {vs : List V} (n : Nat), RepVs K io F ds vs → Env K io F (ds.map some ++ List.replicate n none) (vs.map some ++ List.replicate n none)
  | [], _, n, h => by
    have h' : _ = _ := h
    subst h'
    show Env K io F (List.replicate n none) (List.replicate n none)
    induction n with
    | zero => exact rfl
    | succ n ih => exact ⟨none, _, rfl, trivial, ih⟩
  | d :: ds, _, n, ⟨v, r, e1, h1, h2⟩ => by
    subst e1
    exact ⟨some v, _, rfl, ⟨v, rfl, h1⟩, Env.start n h2⟩
def wipeE (ds : En) : List Nat → En
  | [] => ds
  | v :: vs => (wipeE ds vs).set v none
theorem Env.wipe {ds : En} {s : St} (h : Env K io F ds s) : ∀ vs : List Nat, Env K io F (wipeE ds vs) (L2.wipe s vs)
  | [] => h
  | v :: vs => (Env.wipe h vs).unset v none
end

def OE (X : Cx) (W : WX) (e : Expr) (m : ME) : Prop := ∃ t, PE X e t ∧ ∀ (ρ : En) (S : Sto) (io : Io) (F : Hp) (σ : St) (H : Hp) (Q : VK), Sta X.K io F S H → Env X.K io F ρ σ →
  RG X.K (RepA X.K) (m ρ S) io F H Q (fun c d H' => W c d σ H') → t σ H Q
abbrev MT := En → Sto → Res Bool
def RepB : Io → Hp → Bool → Bool → Prop := fun _ _ b c => b = c
def OT (X : Cx) (W : WX) (e : Expr) (m : MT) : Prop := ∃ t, PT X e t ∧ ∀ (ρ : En) (S : Sto) (io : Io) (F : Hp) (σ : St) (H : Hp) (Q : Bool → Hp → Prop), Sta X.K io F S H → Env X.K io F ρ σ →
  RG X.K RepB (m ρ S) io F H Q (fun c d H' => W c d σ H') → t σ H Q
abbrev MA := En → Sto → Res (List Vl)
def OA (X : Cx) (W : WX) (es : List Expr) (m : MA) : Prop := ∃ t, PA X es t ∧ ∀ (ρ : En) (S : Sto) (io : Io) (F : Hp) (σ : St) (H : Hp) (Q : List V → Hp → Prop), Sta X.K io F S H → Env X.K io F ρ σ →
  RG X.K (RepAs X.K) (m ρ S) io F H Q (fun c d H' => W c d σ H') → t σ H Q
inductive Fl where
  | nx (ρ : En) | rt (d : Vl) | bk (ρ : En) | ct (ρ : En) | xc (ρ : En) (c : Str) (d : XD)
inductive RF where
  | ok (f : Fl) (S : Sto)
  | bad
abbrev MS := En → Sto → RF
def RS (K : PySem.W.Frag) (r : RF) (io : Io) (F H : Hp) (D : Ends) (W : WX) : Prop := match r with
  | .ok (.nx ρ) S' => ∀ io' F' H' σ', Nxt io F H io' F' H' → Sta K io' F' S' H' → Env K io' F' ρ σ' → D.nx σ' H'
  | .ok (.rt d) S' => ∀ io' F' H' v, Nxt io F H io' F' H' → Sta K io' F' S' H' → RepV K io' F' d v → D.rt v H'
  | .ok (.bk ρ) S' => ∀ io' F' H' σ', Nxt io F H io' F' H' → Sta K io' F' S' H' → Env K io' F' ρ σ' → D.bk σ' H'
  | .ok (.ct ρ) S' => ∀ io' F' H' σ', Nxt io F H io' F' H' → Sta K io' F' S' H' → Env K io' F' ρ σ' → D.ct σ' H'
  | .ok (.xc ρ c x) S' => ∀ io' F' H' d σ', Nxt io F H io' F' H' → Sta K io' F' S' H' → Env K io' F' ρ σ' → XRep K F' H' x d → W (.ref (He.ga K c)) d σ' H'
  | .bad => False
def OS (X : Cx) (W : WX) (st : Stmt) (m : MS) : Prop := ∃ t, PS X st t ∧ ∀ (ρ : En) (S : Sto) (io : Io) (F : Hp) (σ : St) (H : Hp) (D : Ends), Sta X.K io F S H → Env X.K io F ρ σ →
  RS X.K (m ρ S) io F H D W → t D σ H
def OSs (X : Cx) (W : WX) (st : List Stmt) (m : MS) : Prop := ∃ t, PSs X st t ∧ ∀ (ρ : En) (S : Sto) (io : Io) (F : Hp) (σ : St) (H : Hp) (D : Ends), Sta X.K io F S H → Env X.K io F ρ σ →
  RS X.K (m ρ S) io F H D W → t D σ H
def Res.go {A : Type} (r : Res A) (ρ : En) (f : A → Sto → RF) : RF := match r with
  | .ok a S => f a S
  | .exc c x S => .ok (.xc ρ c x) S
  | .bad => .bad
section
variable {K : PySem.W.Frag} {io : Io} {F H : Hp} {S : Sto} {A B : Type} {R : Io → Hp → A → B → Prop} {Q1 : B → Hp → Prop} {W : WX} {D : Ends} {ρ : En} {σ : St}
theorem RS.step {io1 : Io} {F1 H1 : Hp} {r : RF} (nx : Nxt io F H io1 F1 H1) (h : RS K r io F H D W) : RS K r io1 F1 H1 D W := by
  cases r with
  | ok f S =>
    cases f with
    | nx ρ => exact fun io' F' H' v n s rp => h io' F' H' v (nx.trans n) s rp
    | rt ρ => exact fun io' F' H' v n s rp => h io' F' H' v (nx.trans n) s rp
    | bk ρ => exact fun io' F' H' v n s rp => h io' F' H' v (nx.trans n) s rp
    | ct ρ => exact fun io' F' H' v n s rp => h io' F' H' v (nx.trans n) s rp
    | xc ρ c x => exact fun io' F' H' d v n s rp xr => h io' F' H' d v (nx.trans n) s rp xr
  | bad => exact h
theorem RS.go {r : Res A} {f : A → Sto → RF} (en : Env K io F ρ σ) (h : RS K (r.go ρ f) io F H D W)
    (k : ∀ a S1 io1 F1 H1 v, r = .ok a S1 → Nxt io F H io1 F1 H1 → Sta K io1 F1 S1 H1 → R io1 F1 a v → RS K (f a S1) io1 F1 H1 D W → Q1 v H1) : RG K R r io F H Q1 (fun c d H' => W c d σ H') := by
  cases r with
  | ok a S => exact fun io' F' H' v n s rp => k a S io' F' H' v rfl n s rp (RS.step n h)
  | exc c x S => exact fun io' F' H' d n s xr => h io' F' H' d σ n s (en.nxt n) xr
  | bad => exact h
end
end Mir

namespace Mir
open PySem L2

def eVar (i : Nat) : ME := fun ρ S => match ρ[i]? with
  | some (some d) => .ok d S
  | _ => .bad
def eC (x : P) : ME := fun _ S => .ok (.p x) S
def op1 (f : P → Option P) (x : Vl) (S : Sto) : Res Vl := match rd S x with
  | some x => (match f x with
    | some z => .ok (.p z) S
    | none => .bad)
  | none => .bad
def op2 (f : P → P → Option P) (x y : Vl) (S : Sto) : Res Vl := match rd S x, rd S y with
  | some x, some y => (match f x y with
    | some z => .ok (.p z) S
    | none => .bad)
  | _, _ => .bad
def eUn (f : P → Option P) (a : ME) : ME := fun ρ S => (a ρ S).bind fun x S1 => op1 f x S1
def eBin (f : P → P → Option P) (a b : ME) : ME := fun ρ S => (a ρ S).bind fun x S1 => (b ρ S1).bind fun y S2 => op2 f x y S2
def tst (x : Vl) (S : Sto) : Res Bool := match x with
  | .p (.bl b) => .ok b S
  | _ => .bad
def tVal (a : ME) : MT := fun ρ S => (a ρ S).bind tst
def tAndM (a b : MT) : MT := fun ρ S => (a ρ S).bind fun x S1 => match x with
  | true => b ρ S1
  | false => .ok false S1
def tOrM (a b : MT) : MT := fun ρ S => (a ρ S).bind fun x S1 => match x with
  | true => .ok true S1
  | false => b ρ S1
def tNotM (a : MT) : MT := fun ρ S => (a ρ S).bind fun x S1 => .ok (!x) S1
def eAndM (a b : ME) : ME := fun ρ S => (a ρ S).bind fun x S1 => (tst x S1).bind fun c S2 => match c with
  | true => b ρ S2
  | false => .ok (.p (.bl false)) S2
def eOrM (a b : ME) : ME := fun ρ S => (a ρ S).bind fun x S1 => (tst x S1).bind fun c S2 => match c with
  | true => .ok (.p (.bl true)) S2
  | false => b ρ S2
def eNotM (a : ME) : ME := fun ρ S => (a ρ S).bind fun x S1 => (tst x S1).bind fun c S2 => .ok (.p (.bl (!c))) S2
def eIfM (t : MT) (a b : ME) : ME := fun ρ S => (t ρ S).bind fun x S1 => match x with
  | true => a ρ S1
  | false => b ρ S1
def aNil : MA := fun _ S => .ok [] S
def aCons (a : ME) (r : MA) : MA := fun ρ S => (a ρ S).bind fun x S1 => (r ρ S1).bind fun xs S2 => .ok (x :: xs) S2
def seqR (f : Vl → Sto → Res P) : List Vl → Sto → Res (List P)
  | [], S => .ok [] S
  | x :: xs, S => (f x S).bind fun y S1 => (seqR f xs S1).bind fun ys S2 => .ok (y :: ys) S2
def frzN : Nat → Vl → Sto → Res P
  | 0, x, S => (match x with
    | .p x => .ok x S
    | .c _ => .bad)
  | n + 1, x, S => match x with
    | .p x => .ok x S
    | .c k => match S[k]? with
      | some (.lst xs) => .ok (.lst xs) (S.set k (.fz (.lst xs)))
      | some (.dct ks xs) => .ok (.dct ks xs) (S.set k (.fz (.dct ks xs)))
      | some (.fz x) => .ok x S
      | some (.tup xs) => .ok (.tup xs) S
      | some (.tpz xs) => .ok (.tup xs) S
      | some (.lsv xs) => (seqR (frzN n) xs S).bind fun ys S1 => (match S1[k]? with
        | some (.lsv _) => .ok (.lst ys) (S1.set k (.fz (.lst ys)))
        | _ => .bad)
      | some (.ins c ns xs) => (seqR (frzN n) xs S).bind fun ys S1 => (match S1[k]? with
        | some (.ins c' ns' _) => if c' = c ∧ ns' = ns then .ok (.obj c ns ys) (S1.set k (.fz (.obj c ns ys))) else .bad
        | _ => .bad)
      | _ => .bad
def frz (x : Vl) (S : Sto) : Res P := frzN 3 x S
def frzs (xs : List Vl) (S : Sto) : Res (List P) := seqR frz xs S
@[simp] theorem frz_p (x : P) (S : Sto) : frz (.p x) S = .ok x S := rfl
@[simp] theorem frzs_p : ∀ (xs : List P) (S : Sto), frzs (xs.map Vl.p) S = .ok xs S
  | [], S => rfl
  | x :: xs, S => by
    show ((frz (.p x) S).bind fun y S1 => (frzs (xs.map Vl.p) S1).bind fun ys S2 => Res.ok (y :: ys) S2) = _
    rw [frz_p]
    show ((frzs (xs.map Vl.p) S).bind fun ys S2 => Res.ok (x :: ys) S2) = _
    rw [frzs_p xs S]
    rfl
theorem seqR_nox {f : Vl → Sto → Res P} (hf : ∀ x S c d S', f x S ≠ .exc c d S') : ∀ (xs : List Vl) (S : Sto) (c : Str) (d : XD) (S' : Sto), seqR f xs S ≠ .exc c d S'
  | [], S, c, d, S', e => nomatch e
  | x :: xs, S, c, d, S', e => by
    have e : ((f x S).bind fun y S1 => (seqR f xs S1).bind fun ys S2 => Res.ok (y :: ys) S2) = .exc c d S' := e
    cases q : f x S with
    | bad => rw [q] at e; cases e
    | exc c' d' S1 => exact hf _ _ _ _ _ q
    | ok y S1 =>
      rw [q] at e
      have e : ((seqR f xs S1).bind fun ys S2 => Res.ok (y :: ys) S2) = .exc c d S' := e
      cases q2 : seqR f xs S1 with
      | bad => rw [q2] at e; cases e
      | exc c' d' S2 => exact seqR_nox hf xs S1 c' d' S2 q2
      | ok ys S2 => rw [q2] at e; cases e
theorem frzN_nox : ∀ (n : Nat) (x : Vl) (S : Sto) (c : Str) (d : XD) (S' : Sto), frzN n x S ≠ .exc c d S'
  | 0, .p _, S, c, d, S', e => nomatch e
  | 0, .c _, S, c, d, S', e => nomatch e
  | n + 1, .p _, S, c, d, S', e => nomatch e
  | n + 1, .c k, S, c, d, S', e => by
    unfold frzN at e
    dsimp only at e
    split at e
    · cases e
    · cases e
    · cases e
    · cases e
    · cases e
    · rename_i xs _
      cases q : seqR (frzN n) xs S with
      | bad => rw [q] at e; cases e
      | exc c' d' S1 => exact seqR_nox (frzN_nox n) _ _ _ _ _ q
      | ok ys S1 =>
        rw [q] at e
        have e : (match S1[k]? with
          | some (.lsv _) => Res.ok (P.lst ys) (S1.set k (.fz (.lst ys)))
          | _ => .bad) = .exc c d S' := e
        split at e <;> cases e
    · rename_i c2 ns xs _
      cases q : seqR (frzN n) xs S with
      | bad => rw [q] at e; cases e
      | exc c' d' S1 => exact seqR_nox (frzN_nox n) _ _ _ _ _ q
      | ok ys S1 =>
        rw [q] at e
        have e : (match S1[k]? with
          | some (.ins c' ns' _) => if c' = c2 ∧ ns' = ns then Res.ok (P.obj c2 ns ys) (S1.set k (.fz (.obj c2 ns ys))) else .bad
          | _ => .bad) = .exc c d S' := e
        split at e
        · split at e <;> cases e
        · cases e
    · cases e
theorem frz_nox (x : Vl) (S : Sto) (c : Str) (d : XD) (S' : Sto) : frz x S ≠ .exc c d S' := frzN_nox 3 x S c d S'
def eTup (a : MA) : ME := fun ρ S => (a ρ S).bind fun xs S1 => (frzs xs S1).bind fun ys S2 => if ys.length ≤ 100000 then .ok (.p (.tup ys)) S2 else .bad
def eLst (a : MA) : ME := fun ρ S => (a ρ S).bind fun xs S1 => (frzs xs S1).bind fun ys S2 => if ys.length ≤ 100000 then .ok (.p (.lst ys)) S2 else .bad
def eLstC (a : MA) : ME := fun ρ S => (a ρ S).bind fun xs S1 => (frzs xs S1).bind fun ys S2 => if ys.length ≤ 100000 then .ok (.c S2.length) (S2 ++ [.lst ys]) else .bad

def UnOk (K : PySem.W.Frag) (r : V → Hp → VK → Prop) (f : P → Option P) : Prop := ∀ (io : Io) (F : Hp) (S : Sto) (H : Hp) (x : P) (v : V) (z : P) (Q : VK), Sta K io F S H → RepR K F H x v → f x = some z →
  (∀ F' H' u, Nxt io F H io F' H' → Sta K io F' S H' → Rep K F' z u → Q u H') → r v H Q
def BinOk (K : PySem.W.Frag) (r : R2) (f : P → P → Option P) : Prop := ∀ (io : Io) (F : Hp) (S : Sto) (H : Hp) (x y : P) (v w : V) (z : P) (Q : VK), Sta K io F S H → RepR K F H x v → RepR K F H y w → f x y = some z →
  (∀ F' H' u, Nxt io F H io F' H' → Sta K io F' S H' → Rep K F' z u → Q u H') → r v w H Q
section
variable {X : Cx} {W : WX} {a b c : Expr} {ma mb mc : ME} {pos : Pos} {ta tb : MT} {es : List Expr} {mas : MA}
theorem Sta.op2 {K : PySem.W.Frag} {io : Io} {F : Hp} {S : Sto} {H : Hp} {r : R2} {f : P → P → Option P} {d d2 : Vl} {v v2 : V} {Q : VK} {E : XK} (hf : BinOk K r f) (st : Sta K io F S H) (r1 : RepV K io F d v) (r2 : RepV K io F d2 v2)
    (h : RG K (RepA K) (Mir.op2 f d d2 S) io F H Q E) : r v v2 H Q := by
  unfold Mir.op2 at h
  cases e1 : Mir.rd S d with
  | none => rw [e1] at h; exact h.elim
  | some x =>
    cases e2 : Mir.rd S d2 with
    | none => rw [e1, e2] at h; exact h.elim
    | some y =>
      rw [e1, e2] at h
      dsimp only at h
      cases e3 : f x y with
      | none => rw [e3] at h; exact h.elim
      | some z =>
        rw [e3] at h
        exact hf io F S H x y v v2 z Q st (st.rd r1 e1) (st.rd r2 e2) e3 fun F' H' u n s rp => h io F' H' u n s rp
theorem Sta.op1 {K : PySem.W.Frag} {io : Io} {F : Hp} {S : Sto} {H : Hp} {r : V → Hp → VK → Prop} {f : P → Option P} {d : Vl} {v : V} {Q : VK} {E : XK} (hf : UnOk K r f) (st : Sta K io F S H) (r1 : RepV K io F d v)
    (h : RG K (RepA K) (Mir.op1 f d S) io F H Q E) : r v H Q := by
  unfold Mir.op1 at h
  cases e1 : Mir.rd S d with
  | none => rw [e1] at h; exact h.elim
  | some x =>
    rw [e1] at h
    dsimp only at h
    cases e3 : f x with
    | none => rw [e3] at h; exact h.elim
    | some z =>
      rw [e3] at h
      exact hf io F S H x v z Q st (st.rd r1 e1) e3 fun F' H' u n s rp => h io F' H' u n s rp
theorem oe_var (i : Nat) {x : Str} (hN : X.N[i]? = some x := by rfl) (hv : Vis X.env.scope x := by first | exact Or.inl rfl | exact Or.inr (Or.inl rfl) | exact Or.inr (Or.inr rfl)) (hd : (x == ("__debug__" : Str)) = false := by decide)
    (hcd : (x == ("__classdict__" : Str)) = false := by decide) : OE X W (.Name x pos) (eVar i) := by
  refine ⟨_, pe_var hN hv hd hcd, fun ρ S io F σ H Q st en h => ?_⟩
  unfold eVar at h
  cases e : ρ[i]? with
  | none => rw [e] at h; exact h.elim
  | some o =>
    cases o with
    | none => rw [e] at h; exact h.elim
    | some d =>
      rw [e] at h
      obtain ⟨v, hv, hr⟩ := en.get e
      exact ⟨v, hv, RG.val st hr h⟩
theorem oe_c {e : Expr} {v : V} {x : P} (h : PE X e (tC v)) (hr : ∀ F, Rep X.K F x v) : OE X W e (eC x) :=
  ⟨_, h, fun ρ S io F σ H Q st en h => RG.val (R := RepA X.K) (d := .p x) st (hr F) h⟩
theorem oe_int {i : Int} {j : Nat} : OE X W (.Constant (.int i) j pos) (eC (.int i)) := oe_c pe_int fun _ => rfl
theorem oe_bl {i : Bool} {j : Nat} : OE X W (.Constant (.bool i) j pos) (eC (.bl i)) := oe_c pe_bl fun _ => rfl
theorem oe_non {j : Nat} : OE X W (.Constant .none j pos) (eC .non) := oe_c pe_non fun _ => rfl
theorem strOf_toList (x : Str) : strOf x.cps.toList = x := by
  unfold strOf
  rw [Array.toArray_toList]
theorem oe_str {x : Str} {j : Nat} {xs : List Nat} (h : x.cps.toList = xs := by rfl) : OE X W (.Constant (.str x) j pos) (eC (.str xs)) := oe_c pe_str fun _ => by
  show V.str x = V.str (strOf xs)
  rw [← h, strOf_toList]
theorem oe_glob {x : Str} {v : V} {u : Value} {p : P} (hm : X.mg x = some u) (r : RelV v u) (hp : ∀ F, Rep X.K F p v) (hg : Gl X x := by rfl) (hd : (x == ("__debug__" : Str)) = false := by decide) : OE X W (.Name x pos) (eC p) := oe_c (pe_glob hg hm r hd) hp
theorem oe_bltn {x : Str} {v : V} {u : Value} {p : P} (hm : X.mg x = none) (hv : bootBuiltins x = some u) (r : RelV v u) (hp : ∀ F, Rep X.K F p v) (hg : Gl X x := by rfl) (hn : x ≠ "__name__" := by decide) (hd : (x == ("__debug__" : Str)) = false := by decide) : OE X W (.Name x pos) (eC p) := oe_c (pe_bltn hg hm hv r hn hd) hp
theorem oe_bin {op : Operator} {r : R2} {f : P → P → Option P} (ho : OpR X (binaryOp op) r) (hf : BinOk X.K r f) (ha : OE X W a ma) (hb : OE X W b mb) : OE X W (.BinOp a op b pos) (eBin f ma mb) := by
  obtain ⟨ta, pa, ha⟩ := ha
  obtain ⟨tb, pb, hb⟩ := hb
  refine ⟨tOp r ta tb, pe_op ho pa pb, fun ρ S io F σ H Q st en h => ?_⟩
  refine ha ρ S io F σ H _ st en (RG.bind h fun d S1 io1 F1 H1 v e1 n1 s1 r1 h1 => ?_)
  refine hb ρ S1 io1 F1 σ H1 _ s1 (en.nxt n1) (RG.bind h1 fun d2 S2 io2 F2 H2 v2 e2 n2 s2 r2 h2 => ?_)
  exact s2.op2 hf (r1.mono n2.han n2.fr) r2 h2
theorem oe_cmp {op : CmpOp} {r : R2} {f : P → P → Option P} (ho : OpR X (compareOp op) r) (hf : BinOk X.K r f) (ha : OE X W a ma) (hb : OE X W b mb) (hm : behindInMarks op b = false := by first | exact nomark _ | rfl) : OE X W (.Compare a [op] [b] pos) (eBin f ma mb) := by
  obtain ⟨ta, pa, ha⟩ := ha
  obtain ⟨tb, pb, hb⟩ := hb
  refine ⟨tOp r ta tb, pe_cmpR ho pa pb hm, fun ρ S io F σ H Q st en h => ?_⟩
  refine ha ρ S io F σ H _ st en (RG.bind h fun d S1 io1 F1 H1 v e1 n1 s1 r1 h1 => ?_)
  refine hb ρ S1 io1 F1 σ H1 _ s1 (en.nxt n1) (RG.bind h1 fun d2 S2 io2 F2 H2 v2 e2 n2 s2 r2 h2 => ?_)
  exact s2.op2 hf (r1.mono n2.han n2.fr) r2 h2
theorem tst_go {K : PySem.W.Frag} {io : Io} {F : Hp} {S : Sto} {H : Hp} {d : Vl} {v : V} {Q : Bool → Hp → Prop} {E : XK} (st : Sta K io F S H) (r1 : RepV K io F d v) (h : RG K RepB (tst d S) io F H Q E) : ∃ k, v = .bl k ∧ Q k H := by
  cases d with
  | c k => exact h.elim
  | p x =>
    cases x with
    | bl b => exact ⟨b, r1, RG.val (R := RepB) (d := b) (v := b) st rfl h⟩
    | _ => exact h.elim
theorem ot_cmp {op : CmpOp} {r : R2} {f : P → P → Option P} (ho : OpR X (compareOp op) r) (hf : BinOk X.K r f) (ha : OE X W a ma) (hb : OE X W b mb) (hm : behindInMarks op b = false := by first | exact nomark _ | rfl) : OT X W (.Compare a [op] [b] pos) (tVal (eBin f ma mb)) := by
  obtain ⟨ta, pa, ha⟩ := ha
  obtain ⟨tb, pb, hb⟩ := hb
  refine ⟨tTest (tOp r ta tb), pt_cmpR ho pa pb hm, fun ρ S io F σ H Q st en h => ?_⟩
  have h : RG X.K RepB ((ma ρ S).bind fun x S1 => ((mb ρ S1).bind fun y S2 => op2 f x y S2).bind tst) io F H Q (fun c d H' => W c d σ H') := by
    unfold tVal eBin at h
    cases q : ma ρ S with
    | ok d S1 => rw [q] at h; exact h
    | exc c x S1 => rw [q] at h; exact h
    | bad => rw [q] at h; exact h
  refine ha ρ S io F σ H _ st en (RG.bind h fun d S1 io1 F1 H1 v e1 n1 s1 r1 h1 => ?_)
  have h1 : RG X.K RepB ((mb ρ S1).bind fun y S2 => (op2 f d y S2).bind tst) io1 F1 H1 Q (fun c d H' => W c d σ H') := by
    cases q : mb ρ S1 with
    | ok d S1 => rw [q] at h1; exact h1
    | exc c x S1 => rw [q] at h1; exact h1
    | bad => rw [q] at h1; exact h1
  refine hb ρ S1 io1 F1 σ H1 _ s1 (en.nxt n1) (RG.bind h1 fun d2 S2 io2 F2 H2 v2 e2 n2 s2 r2 h2 => ?_)
  refine s2.op2 (E := fun c d H' => W c d σ H') hf (r1.mono n2.han n2.fr) r2 (RG.bind h2 fun d3 S3 io3 F3 H3 v3 e3 n3 s3 r3 h3 => ?_)
  exact tst_go s3 r3 h3
theorem ot_val {e : Expr} {m : ME} (he : OE X W e m) (hs : ∀ whole, isTrue e X.env whole = (do let v ← whole; standAt e.pos; holding [v] (truthy v)) := by intro _; rfl) : OT X W e (tVal m) := by
  obtain ⟨t, p, he⟩ := he
  refine ⟨tB t, pt_val p hs, fun ρ S io F σ H Q st en h => ?_⟩
  exact he ρ S io F σ H _ st en (RG.bind h fun d S1 io1 F1 H1 v e1 n1 s1 r1 h1 => tst_go s1 r1 h1)
theorem ot_not (ha : OT X W a ta) : OT X W (.UnaryOp .Not a pos) (tNotM ta) := by
  obtain ⟨t, p, ha⟩ := ha
  refine ⟨_, pt_not p, fun ρ S io F σ H Q st en h => ?_⟩
  refine ha ρ S io F σ H _ st en (RG.bind h fun d S1 io1 F1 H1 v e1 n1 s1 r1 h1 => ?_)
  cases r1
  exact RG.val (R := RepB) (d := !d) (v := !d) s1 rfl h1
def OW (X : Cx) (W : WX) (e : Expr) (m : MT) : Prop := ∃ t, PW X e t ∧ ∀ (ρ : En) (S : Sto) (io : Io) (F : Hp) (σ : St) (H : Hp) (Q : Bool → Hp → Prop), Sta X.K io F S H → Mir.Env X.K io F ρ σ →
  RG X.K RepB (m ρ S) io F H Q (fun c d H' => W c d σ H') → t σ H Q
theorem ot_w {e : Expr} {m : MT} (h : OW X W e m) : OT X W e m := by
  obtain ⟨t, p, h⟩ := h
  exact ⟨t, p.pt, h⟩
theorem ow_and1 (ha : OT X W a ta) : OW X W (.BoolOp .And [a] pos) ta := by
  obtain ⟨t, p, ha⟩ := ha
  exact ⟨t, pw_and1 p, ha⟩
theorem ow_or1 (ha : OT X W a ta) : OW X W (.BoolOp .Or [a] pos) ta := by
  obtain ⟨t, p, ha⟩ := ha
  exact ⟨t, pw_or1 p, ha⟩
theorem ow_and {rest : List Expr} (ha : OT X W a ta) (hb : OW X W (.BoolOp .And (b :: rest) pos) tb) : OW X W (.BoolOp .And (a :: b :: rest) pos) (tAndM ta tb) := by
  obtain ⟨t, p, ha⟩ := ha
  obtain ⟨u, q, hb⟩ := hb
  refine ⟨_, pw_and p q, fun ρ S io F σ H Q st en h => ?_⟩
  refine ha ρ S io F σ H _ st en (RG.bind h fun d S1 io1 F1 H1 v e1 n1 s1 r1 h1 => ?_)
  cases r1
  cases d with
  | true => exact iteT (hb ρ S1 io1 F1 σ H1 Q s1 (en.nxt n1) h1)
  | false => exact iteF (RG.val (R := RepB) (d := false) (v := false) s1 rfl h1)
theorem ow_or {rest : List Expr} (ha : OT X W a ta) (hb : OW X W (.BoolOp .Or (b :: rest) pos) tb) : OW X W (.BoolOp .Or (a :: b :: rest) pos) (tOrM ta tb) := by
  obtain ⟨t, p, ha⟩ := ha
  obtain ⟨u, q, hb⟩ := hb
  refine ⟨_, pw_or p q, fun ρ S io F σ H Q st en h => ?_⟩
  refine ha ρ S io F σ H _ st en (RG.bind h fun d S1 io1 F1 H1 v e1 n1 s1 r1 h1 => ?_)
  cases r1
  cases d with
  | true => exact iteT (RG.val (R := RepB) (d := true) (v := true) s1 rfl h1)
  | false => exact iteF (hb ρ S1 io1 F1 σ H1 Q s1 (en.nxt n1) h1)
theorem oe_one {op} (ha : OE X W a ma) : OE X W (.BoolOp op [a] pos) ma := by
  obtain ⟨t, p, ha⟩ := ha
  exact ⟨t, pe_one p, ha⟩
theorem tst_bind {K : PySem.W.Frag} {io : Io} {F : Hp} {S : Sto} {H : Hp} {d : Vl} {v : V} {g : Bool → Sto → Res Vl} {Q : VK} {E : XK} (r1 : RepV K io F d v) (h : RG K (RepA K) ((tst d S).bind g) io F H Q E) : ∃ c, d = .p (.bl c) ∧ v = .bl c ∧ RG K (RepA K) (g c S) io F H Q E := by
  cases d with
  | c k => exact h.elim
  | p x =>
    cases x with
    | bl b => exact ⟨b, rfl, r1, h⟩
    | _ => exact h.elim
theorem oe_and {rest : List Expr} (ha : OE X W a ma) (hb : OE X W (.BoolOp .And (b :: rest) pos) mb) : OE X W (.BoolOp .And (a :: b :: rest) pos) (eAndM ma mb) := by
  obtain ⟨t, p, ha⟩ := ha
  obtain ⟨u, q, hb⟩ := hb
  refine ⟨_, pe_and p q, fun ρ S io F σ H Q st en h => ?_⟩
  refine ha ρ S io F σ H _ st en (RG.bind h fun d S1 io1 F1 H1 v e1 n1 s1 r1 h1 => ?_)
  obtain ⟨c, _, hv, h2⟩ := tst_bind r1 h1
  refine ⟨c, hv, ?_⟩
  cases c with
  | true => exact iteT (hb ρ S1 io1 F1 σ H1 Q s1 (en.nxt n1) h2)
  | false => exact iteF (RG.val (R := RepA X.K) (d := .p (.bl false)) s1 rfl h2)
theorem oe_or {rest : List Expr} (ha : OE X W a ma) (hb : OE X W (.BoolOp .Or (b :: rest) pos) mb) : OE X W (.BoolOp .Or (a :: b :: rest) pos) (eOrM ma mb) := by
  obtain ⟨t, p, ha⟩ := ha
  obtain ⟨u, q, hb⟩ := hb
  refine ⟨_, pe_or p q, fun ρ S io F σ H Q st en h => ?_⟩
  refine ha ρ S io F σ H _ st en (RG.bind h fun d S1 io1 F1 H1 v e1 n1 s1 r1 h1 => ?_)
  obtain ⟨c, _, hv, h2⟩ := tst_bind r1 h1
  refine ⟨c, hv, ?_⟩
  cases c with
  | true => exact iteT (RG.val (R := RepA X.K) (d := .p (.bl true)) s1 rfl h2)
  | false => exact iteF (hb ρ S1 io1 F1 σ H1 Q s1 (en.nxt n1) h2)
theorem oe_if (hc : OT X W c ta) (ha : OE X W a ma) (hb : OE X W b mb) : OE X W (.IfExp c a b pos) (eIfM ta ma mb) := by
  obtain ⟨t, p, hc⟩ := hc
  obtain ⟨u, q, ha⟩ := ha
  obtain ⟨u2, q2, hb⟩ := hb
  refine ⟨_, pe_ifExp p q q2, fun ρ S io F σ H Q st en h => ?_⟩
  refine hc ρ S io F σ H _ st en (RG.bind h fun d S1 io1 F1 H1 v e1 n1 s1 r1 h1 => ?_)
  cases r1
  cases d with
  | true => exact iteT (ha ρ S1 io1 F1 σ H1 Q s1 (en.nxt n1) h1)
  | false => exact iteF (hb ρ S1 io1 F1 σ H1 Q s1 (en.nxt n1) h1)
theorem oe_un {op : UnaryOp} {r : V → Hp → VK → Prop} {f : P → Option P} (ho : UnR X (unaryOp op) r) (hf : UnOk X.K r f) (ha : OE X W a ma) : OE X W (.UnaryOp op a pos) (eUn f ma) := by
  obtain ⟨t, p, ha⟩ := ha
  refine ⟨_, pe_un ho p, fun ρ S io F σ H Q st en h => ?_⟩
  exact ha ρ S io F σ H _ st en (RG.bind h fun d S1 io1 F1 H1 v e1 n1 s1 r1 h1 => s1.op1 hf r1 h1)
theorem oa_nil : OA X W [] aNil := ⟨_, pa_nil, fun ρ S io F σ H Q st en h => RG.val (R := RepAs X.K) (d := []) (v := []) st rfl h⟩
theorem oa_cons (ha : OE X W a ma) (hr : OA X W es mas) (hs : starEach (a :: es) X.env = (false, eval a X.env) :: starEach es X.env := by rfl) : OA X W (a :: es) (aCons ma mas) := by
  obtain ⟨t, p, ha⟩ := ha
  obtain ⟨u, q, hr⟩ := hr
  refine ⟨_, pa_cons p q hs, fun ρ S io F σ H Q st en h => ?_⟩
  refine ha ρ S io F σ H _ st en (RG.bind h fun d S1 io1 F1 H1 v e1 n1 s1 r1 h1 => ?_)
  refine hr ρ S1 io1 F1 σ H1 _ s1 (en.nxt n1) (RG.bind h1 fun d2 S2 io2 F2 H2 v2 e2 n2 s2 r2 h2 => ?_)
  exact RG.val (R := RepAs X.K) (d := d :: d2) s2 ⟨v, v2, rfl, r1.mono n2.han n2.fr, r2⟩ h2
end
section
variable {K : PySem.W.Frag} {io : Io} {F : Hp} {S : Sto} {H : Hp}
def FrzOk (K : PySem.W.Frag) (H : Hp) (io : Io) (f : Vl → Sto → Res P) : Prop := ∀ (F : Hp) (S S' : Sto) (d : Vl) (v : V) (x : P), Sta K io F S H → RepV K io F d v → f d S = .ok x S' → ∃ F', Nxt io F H io F' H ∧ Sta K io F' S' H ∧ Rep K F' x v
theorem FrzOk.seq {f : Vl → Sto → Res P} (hf : FrzOk K H io f) : ∀ {ds : List Vl} {vs : List V} {F : Hp} {S S' : Sto} {xs : List P}, Sta K io F S H → RepVs K io F ds vs → seqR f ds S = .ok xs S' → ∃ F', Nxt io F H io F' H ∧ Sta K io F' S' H ∧ RepL K F' xs vs
  | [], vs, F, S, S', xs, st, r, e => by
    cases e
    have r' : _ = _ := r
    subst r'
    exact ⟨F, Nxt.refl, st, .nil⟩
  | d :: ds, vs, F, S, S', xs, st, ⟨v, r, e1, h1, h2⟩, e => by
    subst e1
    have e : ((f d S).bind fun y S1 => (seqR f ds S1).bind fun ys S2 => Res.ok (y :: ys) S2) = .ok xs S' := e
    cases q : f d S with
    | bad => rw [q] at e; cases e
    | exc c x S1 => rw [q] at e; cases e
    | ok y S1 =>
      rw [q] at e
      have e : ((seqR f ds S1).bind fun ys S2 => Res.ok (y :: ys) S2) = .ok xs S' := e
      obtain ⟨F1, n1, s1, rp⟩ := hf _ _ _ _ _ _ st h1 q
      cases q2 : seqR f ds S1 with
      | bad => rw [q2] at e; cases e
      | exc c x S2 => rw [q2] at e; cases e
      | ok ys S2 =>
        rw [q2] at e
        cases e
        obtain ⟨F2, n2, s2, rps⟩ := FrzOk.seq hf s1 (h2.mono n1.han n1.fr) q2
        exact ⟨F2, n1.trans n2, s2, .cons (Rep.mono n2.fr rp) rps⟩
theorem frzN_ok : ∀ n, FrzOk K H io (frzN n)
  | 0 => fun F S S' d v x st r e => by
    cases d with
    | p y => cases e; exact ⟨F, Nxt.refl, st, r⟩
    | c k => cases e
  | n + 1 => fun F S S' d v x st r e => by
    cases d with
    | p y => cases e; exact ⟨F, Nxt.refl, st, r⟩
    | c k =>
      obtain ⟨a, ha, rfl⟩ := r
      unfold frzN at e
      dsimp only at e
      cases hk : S[k]? with
      | none => rw [hk] at e; cases e
      | some c =>
        rw [hk] at e
        cases c with
        | lst xs =>
          cases e
          obtain ⟨b, vs, hb, hF, hH, hr⟩ := st.cel k _ hk
          rw [ha] at hb
          cases hb
          have rp : Rep K (upd F a (.lst vs)) (.lst xs) (.ref a) := ⟨a, vs, rfl, upd_same, RepL.mono (upd_same_of hF) hr⟩
          obtain ⟨s2, n2⟩ := st.freeze ha hF hH rp
          exact ⟨_, n2, s2, rp⟩
        | dct ks xs =>
          cases e
          obtain ⟨b, vs, hb, hF, hH, hr, hr2⟩ := st.cel k _ hk
          rw [ha] at hb
          cases hb
          have rp : Rep K (upd F a (.dK vs)) (.dct ks xs) (.ref a) := ⟨a, vs, rfl, upd_same, RepL.mono (upd_same_of hF) hr, RepL.mono (upd_same_of hF) hr2⟩
          obtain ⟨s2, n2⟩ := st.freeze ha hF hH rp
          exact ⟨_, n2, s2, rp⟩
        | fz y =>
          cases e
          obtain ⟨b, hb, hr⟩ := st.cel k _ hk
          rw [ha] at hb
          cases hb
          exact ⟨F, Nxt.refl, st, hr⟩
        | tup ys =>
          cases e
          obtain ⟨b, vs, hb, hF, hr⟩ := st.cel k _ hk
          rw [ha] at hb
          cases hb
          exact ⟨F, Nxt.refl, st, a, vs, rfl, SqT.of hF, hr⟩
        | tpz ys =>
          cases e
          obtain ⟨b, vs, o, hb, hF, _, _, hr⟩ := st.cel k _ hk
          rw [ha] at hb
          cases hb
          exact ⟨F, Nxt.refl, st, a, vs, rfl, .inl (.inr ⟨o, hF⟩), hr⟩
        | dcT ks ys => cases e
        | dcN η ks ys => cases e
        | tbl p q => cases e
        | dvs _ => cases e
        | tblC _ _ _ => cases e
        | lsv xs =>
          dsimp only at e
          obtain ⟨b, vs, hb, hF, hH, hr, _⟩ := st.cel k _ hk
          rw [ha] at hb
          cases hb
          cases q : seqR (frzN n) xs S with
          | bad => rw [q] at e; cases e
          | exc c x S2 => rw [q] at e; cases e
          | ok ys S2 =>
            rw [q] at e
            have e : (match S2[k]? with
              | some (.lsv _) => Res.ok (P.lst ys) (S2.set k (.fz (.lst ys)))
              | _ => .bad) = .ok x S' := e
            obtain ⟨F3, n3, s3, rps⟩ := FrzOk.seq (frzN_ok n) st hr q
            split at e
            · rename_i xs' hk'
              cases e
              obtain ⟨b, vs', hb, hF', hH', _⟩ := s3.cel k _ hk'
              rw [ha] at hb
              cases hb
              rw [hH] at hH'
              cases hH'
              have rp : Rep K (upd F3 a (.lst vs)) (.lst ys) (.ref a) := ⟨a, vs, rfl, upd_same, RepL.mono (upd_same_of hF') rps⟩
              obtain ⟨s2, n2⟩ := s3.freeze ha hF' hH rp
              exact ⟨_, n3.trans n2, s2, rp⟩
            · cases e
        | ins cc ns xs =>
          dsimp only at e
          obtain ⟨b, dx, gs, hb, hF, hH, hn, hr, _⟩ := st.cel k _ hk
          rw [ha] at hb
          cases hb
          cases q : seqR (frzN n) xs S with
          | bad => rw [q] at e; cases e
          | exc c x S2 => rw [q] at e; cases e
          | ok ys S2 =>
            rw [q] at e
            have e : (match S2[k]? with
              | some (.ins c' ns' _) => if c' = cc ∧ ns' = ns then Res.ok (P.obj cc ns ys) (S2.set k (.fz (.obj cc ns ys))) else .bad
              | _ => .bad) = .ok x S' := e
            obtain ⟨F3, n3, s3, rps⟩ := FrzOk.seq (frzN_ok n) st hr q
            split at e
            · rename_i c' ns' xs' hk'
              split at e
              · rename_i hcn
                cases e
                obtain ⟨b, dx', gs', hb, hF', hH', _⟩ := s3.cel k _ hk'
                rw [ha] at hb
                cases hb
                have rp : Rep K (upd F3 a (.ins (He.ga K cc) dx gs)) (.obj cc ns ys) (.ref a) := ⟨a, dx, gs, rfl, upd_same, hn, RepL.mono (upd_same_of hF') rps⟩
                obtain ⟨s2, n2⟩ := s3.freeze ha hF' hH rp
                exact ⟨_, n3.trans n2, s2, rp⟩
              · cases e
            · cases e
        | res => cases e
theorem Sta.frz (st : Sta K io F S H) {d : Vl} {v : V} {C D : Type} {R' : Io → Hp → C → D → Prop} {g : P → Sto → Res C} {Q : D → Hp → Prop} {E : XK} (r1 : RepV K io F d v) (h : RG K R' ((Mir.frz d S).bind g) io F H Q E) :
    ∃ x S' F', Nxt io F H io F' H ∧ Sta K io F' S' H ∧ Rep K F' x v ∧ Mir.frz d S = .ok x S' ∧ RG K R' (g x S') io F' H Q E := by
  cases q : Mir.frz d S with
  | bad => rw [q] at h; exact h.elim
  | exc c x S1 => exact absurd q (frz_nox _ _ _ _ _)
  | ok x S1 =>
    rw [q] at h
    obtain ⟨F1, n1, s1, rp⟩ := frzN_ok 3 _ _ _ _ _ _ st r1 q
    exact ⟨x, S1, F1, n1, s1, rp, rfl, RG.step n1 h⟩
theorem Sta.frzs {C D : Type} {R' : Io → Hp → C → D → Prop} {Q : D → Hp → Prop} {E : XK} : ∀ {ds : List Vl} {vs : List V} {F : Hp} {S : Sto} {g : List P → Sto → Res C}, Sta K io F S H → RepVs K io F ds vs → RG K R' ((Mir.frzs ds S).bind g) io F H Q E →
    ∃ xs S' F', Nxt io F H io F' H ∧ Sta K io F' S' H ∧ RepL K F' xs vs ∧ RG K R' (g xs S') io F' H Q E
  | [], vs, F, S, g, st, r, h => by
    have r' : _ = _ := r
    subst r'
    exact ⟨[], S, F, Nxt.refl, st, .nil, h⟩
  | d :: ds, vs, F, S, g, st, ⟨v, r, e1, h1, h2⟩, h => by
    subst e1
    have h : RG K R' ((Mir.frz d S).bind fun y S1 => ((Mir.frzs ds S1).bind fun ys S2 => Res.ok (y :: ys) S2).bind g) io F H Q E := by
      have q : (Mir.frzs (d :: ds) S).bind g = (Mir.frz d S).bind fun y S1 => ((Mir.frzs ds S1).bind fun ys S2 => Res.ok (y :: ys) S2).bind g := by
        show ((Mir.frz d S).bind fun y S1 => (Mir.frzs ds S1).bind fun ys S2 => Res.ok (y :: ys) S2).bind g = _
        cases Mir.frz d S <;> rfl
      rw [← q]; exact h
    obtain ⟨x, S1, F1, n1, s1, rp, hl, h3⟩ := st.frz h1 h
    have h3 : RG K R' ((Mir.frzs ds S1).bind fun ys S2 => g (x :: ys) S2) io F1 H Q E := by
      have q : (Mir.frzs ds S1).bind (fun ys S2 => g (x :: ys) S2) = ((Mir.frzs ds S1).bind fun ys S2 => Res.ok (x :: ys) S2).bind g := by
        cases Mir.frzs ds S1 <;> rfl
      rw [q]; exact h3
    obtain ⟨xs, S2, F2, n2, s2, rps, h4⟩ := Sta.frzs s1 (h2.mono n1.han n1.fr) h3
    exact ⟨x :: xs, S2, F2, n1.trans n2, s2, .cons (Rep.mono n2.fr rp) rps, h4⟩
end
section
variable {X : Cx} {W : WX} {pos : Pos} {es : List Expr} {mas : MA}
theorem sz5 {n : Nat} (h : n ≤ 100000) : n ≤ sizeLine := Nat.le_trans h (by decide)
theorem sz5l {n : Nat} (h : n < 100000) : n < sizeLine := Nat.lt_of_lt_of_le h (by decide)
theorem oe_tup {k : Nat} (h : OA X W es mas) : OE X W (.Tuple es k pos) (eTup mas) := by
  obtain ⟨t, p, h⟩ := h
  refine ⟨_, pe_tup p, fun ρ S io F σ H Q st en hw => ?_⟩
  refine h ρ S io F σ H _ st en (RG.bind hw fun d S1 io1 F1 H1 v e1 n1 s1 r1 h1 => ?_)
  obtain ⟨xs, S2, F2, n2, s2, rp, h2⟩ := s1.frzs r1 h1
  have hlen := rp.length
  by_cases hz : xs.length ≤ 100000
  · rw [if_pos hz] at h2
    refine ⟨by rw [hlen]; exact sz5 hz, fun q hq => ?_⟩
    obtain ⟨s3, n3⟩ := s2.froze (o := .tup v) hq
    exact h2 io1 _ _ (.ref q) n3 s3 ⟨q, v, rfl, SqT.of upd_same, RepL.mono n3.fr rp⟩
  · rw [if_neg hz] at h2
    exact h2.elim
theorem oe_lst (h : OA X W es mas) : OE X W (.List es pos) (eLst mas) := by
  obtain ⟨t, p, h⟩ := h
  refine ⟨_, pe_lst p, fun ρ S io F σ H Q st en hw => ?_⟩
  refine h ρ S io F σ H _ st en (RG.bind hw fun d S1 io1 F1 H1 v e1 n1 s1 r1 h1 => ?_)
  obtain ⟨xs, S2, F2, n2, s2, rp, h2⟩ := s1.frzs r1 h1
  have hlen := rp.length
  by_cases hz : xs.length ≤ 100000
  · rw [if_pos hz] at h2
    refine ⟨by rw [hlen]; exact sz5 hz, fun q hq => ?_⟩
    obtain ⟨s3, n3⟩ := s2.froze (o := .lst v) hq
    exact h2 io1 _ _ (.ref q) n3 s3 ⟨q, v, rfl, upd_same, RepL.mono n3.fr rp⟩
  · rw [if_neg hz] at h2
    exact h2.elim
theorem oe_lstC (h : OA X W es mas) : OE X W (.List es pos) (eLstC mas) := by
  obtain ⟨t, p, h⟩ := h
  refine ⟨_, pe_lst p, fun ρ S io F σ H Q st en hw => ?_⟩
  refine h ρ S io F σ H _ st en (RG.bind hw fun d S1 io1 F1 H1 v e1 n1 s1 r1 h1 => ?_)
  obtain ⟨xs, S2, F2, n2, s2, rp, h2⟩ := s1.frzs r1 h1
  have hlen := rp.length
  by_cases hz : xs.length ≤ 100000
  · rw [if_pos hz] at h2
    refine ⟨by rw [hlen]; exact sz5 hz, fun q hq => ?_⟩
    have hi : (io1 ++ [some q])[S2.length]? = some (some q) := by rw [← s2.len]; simp
    obtain ⟨s3, n3⟩ := s2.push (o := .lst v) (c := .lst xs) hq ⟨q, v, hi, Same.free s2.sub hq, upd_same, rp⟩
    exact h2 _ _ _ (.ref q) n3 s3 ⟨q, hi, rfl⟩
  · rw [if_neg hz] at h2
    exact h2.elim
end
end Mir

namespace Mir
open PySem L2
mutual
def P.dat : P → Nat → Bool
  | .non, _ => true
  | .bl _, _ => true
  | .int _, _ => true
  | .str x, _ => x.all fun c => decide (c < 128)
  | .lst _, 0 => false
  | .lst xs, n + 1 => datL xs n
  | .tup _, 0 => false
  | .tup xs, n + 1 => datL xs n
  | _, _ => false
def datL : List P → Nat → Bool
  | [], _ => true
  | x :: xs, n => x.dat n && datL xs n
end
mutual
def P.toD : P → PyData
  | .non => .none
  | .bl b => .bool b
  | .int i => .int i
  | .str x => .str (strOf x)
  | .lst xs => .list (toDL xs)
  | .tup xs => .tuple (toDL xs)
  | .dct _ _ => .none
  | .obj _ _ _ => .none
  | .ty _ => .none
  | .glo _ => .none
  | .raw _ => .none
  | .rwp _ _ => .none
  | .scr _ => .none
def toDL : List P → List PyData
  | [] => []
  | x :: xs => x.toD :: toDL xs
end
mutual
def P.eqv : P → P → Bool
  | .non, .non => true
  | .bl a, .bl b => a == b
  | .bl a, .int j => (if a then 1 else 0) == j
  | .int i, .bl b => i == (if b then 1 else 0)
  | .int i, .int j => i == j
  | .str x, .str y => x == y
  | .lst xs, .lst ys => eqvL xs ys
  | .tup xs, .tup ys => eqvL xs ys
  | _, _ => false
def eqvL : List P → List P → Bool
  | [], [] => true
  | x :: xs, y :: ys => x.eqv y && eqvL xs ys
  | _, _ => false
end
section
variable {K : PySem.W.Frag} {F H : Hp}
mutual
theorem Rep.dp : ∀ {x : P} {v : V} {n : Nat}, x.dat n = true → Rep K H x v → Dp K H v x.toD
  | .non, v, n, _, h => by
    have h' : _ = _ := h
    subst h'
    exact .non
  | .bl b, v, n, _, h => by
    have h' : _ = _ := h
    subst h'
    exact .bl b
  | .int b, v, n, _, h => by
    have h' : _ = _ := h
    subst h'
    exact .int b
  | .str b, v, n, _, h => by
    have h' : _ = _ := h
    subst h'
    exact .str _
  | .lst xs, v, n + 1, hd, h => by
    obtain ⟨a, vs, rfl, h1, h2⟩ := h
    exact .lst (SqL.of h1) (RepL.dp hd h2)
  | .tup xs, v, n + 1, hd, h => by
    obtain ⟨a, vs, rfl, h1, h2⟩ := h
    exact .tup h1 (RepL.dp hd h2)
  | .lst xs, v, 0, hd, h => by cases hd
  | .tup xs, v, 0, hd, h => by cases hd
  | .dct _ _, v, n, hd, h => by cases hd
  | .obj _ _ _, v, n, hd, h => by cases hd
  | .ty _, v, n, hd, h => by cases hd
  | .glo _, v, n, hd, h => by cases hd
  | .raw _, v, n, hd, h => by cases hd
  | .rwp _ _, v, n, hd, h => by cases hd
  | .scr _, v, n, hd, h => by cases hd
theorem RepL.dp : ∀ {xs : List P} {vs : List V} {n : Nat}, datL xs n = true → RepL K H xs vs → DpAll K H vs (toDL xs)
  | [], vs, n, _, h => by
    have h' : _ = _ := h
    subst h'
    exact .nil
  | x :: xs, vs, n, hd, h => by
    obtain ⟨v, r, e1, h1, h2⟩ := h
    subst e1
    have hd' : (x.dat n && datL xs n) = true := hd
    rw [Bool.and_eq_true] at hd'
    exact .cons (Rep.dp hd'.1 h1) (RepL.dp hd'.2 h2)
end
theorem strOk_of {x : List Nat} (h : (x.all fun c => decide (c < 128)) = true) : (P.str x).toD.canLay0 = true := by
  show PyData.canLay0 (.str (strOf x)) = true
  simp only [PyData.canLay0]
  unfold PyData.strOk strOf
  simp only [List.all_eq_true, decide_eq_true_eq] at h
  simp only [List.all_toArray, List.all_eq_true, decide_eq_true_eq]
  exact fun c hc => Nat.lt_trans (h c hc) (by decide)
mutual
theorem P.lay : ∀ {x : P} {n : Nat}, x.dat n = true → x.toD.canLay0 = true
  | .non, n, _ => rfl
  | .bl b, n, _ => rfl
  | .int b, n, _ => rfl
  | .str b, n, h => strOk_of h
  | .lst xs, n + 1, hd => by
    show PyData.canLay0 (.list (toDL xs)) = true
    simp only [PyData.canLay0]
    exact layL hd
  | .tup xs, n + 1, hd => by
    show PyData.canLay0 (.tuple (toDL xs)) = true
    simp only [PyData.canLay0]
    exact layL hd
  | .lst xs, 0, hd => by cases hd
  | .tup xs, 0, hd => by cases hd
  | .dct _ _, n, hd => by cases hd
  | .obj _ _ _, n, hd => by cases hd
  | .ty _, n, hd => by cases hd
  | .glo _, n, hd => by cases hd
  | .raw _, n, hd => by cases hd
  | .rwp _ _, n, hd => by cases hd
  | .scr _, n, hd => by cases hd
theorem layL : ∀ {xs : List P} {n : Nat}, datL xs n = true → PyData.canLayAll0 (toDL xs) = true
  | [], n, _ => rfl
  | x :: xs, n, hd => by
    have hd' : (x.dat n && datL xs n) = true := hd
    rw [Bool.and_eq_true] at hd'
    show PyData.canLayAll0 (x.toD :: toDL xs) = true
    simp only [PyData.canLayAll0, Bool.and_eq_true]
    exact ⟨P.lay hd'.1, layL hd'.2⟩
end
mutual
theorem P.dep : ∀ {x : P} {n : Nat}, x.dat n = true → x.toD.depth ≤ n
  | .non, n, _ => Nat.zero_le _
  | .bl b, n, _ => Nat.zero_le _
  | .int b, n, _ => Nat.zero_le _
  | .str b, n, _ => Nat.zero_le _
  | .lst xs, n + 1, hd => by
    show PyData.depth (.list (toDL xs)) ≤ n + 1
    have := depL (xs := xs) (n := n) hd
    simp only [PyData.depth]
    omega
  | .tup xs, n + 1, hd => by
    show PyData.depth (.tuple (toDL xs)) ≤ n + 1
    have := depL (xs := xs) (n := n) hd
    simp only [PyData.depth]
    omega
  | .lst xs, 0, hd => by cases hd
  | .tup xs, 0, hd => by cases hd
  | .dct _ _, n, hd => by cases hd
  | .obj _ _ _, n, hd => by cases hd
  | .ty _, n, hd => by cases hd
  | .glo _, n, hd => by cases hd
  | .raw _, n, hd => by cases hd
  | .rwp _ _, n, hd => by cases hd
  | .scr _, n, hd => by cases hd
theorem depL : ∀ {xs : List P} {n : Nat}, datL xs n = true → PyData.depthAll (toDL xs) ≤ n
  | [], n, _ => Nat.zero_le _
  | x :: xs, n, hd => by
    have hd' : (x.dat n && datL xs n) = true := hd
    rw [Bool.and_eq_true] at hd'
    have h1 := P.dep hd'.1
    have h2 := depL hd'.2
    show PyData.depthAll (x.toD :: toDL xs) ≤ n
    simp only [PyData.depthAll]
    omega
end
theorem P.shp {x : P} {n : Nat} (hn : n ≤ 64) (h : x.dat n = true) : SeqAt.shaped x.toD = true := by
  unfold SeqAt.shaped
  rw [P.lay h, decide_eq_true (Nat.le_trans (P.dep h) hn)]
  rfl
theorem strOf_beq (x y : List Nat) : (strOf x == strOf y) = (x == y) := by
  by_cases h : x = y
  · subst h; simp
  · have h1 : strOf x ≠ strOf y := fun q => h (by
      have q' := congrArg (fun z : Str => z.cps.toList) q
      simpa [strOf] using q')
    rw [beq_eq_false_iff_ne.mpr h1, beq_eq_false_iff_ne.mpr h]
mutual
theorem P.eqD : ∀ {x y : P} {n m : Nat}, x.dat n = true → y.dat m = true → PyData.eqv x.toD y.toD = x.eqv y
  | .non, y, n, m, h1, h2 => by cases y <;> first | rfl | (cases h2)
  | .bl a, y, n, m, h1, h2 => by cases y <;> first | rfl | (cases h2)
  | .int a, y, n, m, h1, h2 => by cases y <;> first | rfl | (cases h2)
  | .str a, y, n, m, h1, h2 => by
    cases y with
    | str b => exact strOf_beq a b
    | non => rfl
    | bl _ => rfl
    | int _ => rfl
    | lst _ => rfl
    | tup _ => rfl
    | _ => cases h2
  | .lst xs, y, n + 1, m, h1, h2 => by
    cases y with
    | lst ys =>
      cases m with
      | zero => cases h2
      | succ m => exact eqDL h1 h2
    | non => rfl
    | bl _ => rfl
    | int _ => rfl
    | str _ => rfl
    | tup _ => rfl
    | _ => cases h2
  | .tup xs, y, n + 1, m, h1, h2 => by
    cases y with
    | tup ys =>
      cases m with
      | zero => cases h2
      | succ m => exact eqDL h1 h2
    | non => rfl
    | bl _ => rfl
    | int _ => rfl
    | str _ => rfl
    | lst _ => rfl
    | _ => cases h2
  | .lst xs, y, 0, m, h1, h2 => by cases h1
  | .tup xs, y, 0, m, h1, h2 => by cases h1
  | .dct _ _, y, n, m, h1, h2 => by cases h1
  | .obj _ _ _, y, n, m, h1, h2 => by cases h1
  | .ty _, y, n, m, h1, h2 => by cases h1
  | .glo _, y, n, m, h1, h2 => by cases h1
  | .raw _, y, n, m, h1, h2 => by cases h1
  | .rwp _ _, y, n, m, h1, h2 => by cases h1
  | .scr _, y, n, m, h1, h2 => by cases h1
theorem eqDL : ∀ {xs ys : List P} {n m : Nat}, datL xs n = true → datL ys m = true → PyData.eqvAll (toDL xs) (toDL ys) = eqvL xs ys
  | [], [], n, m, _, _ => rfl
  | [], y :: ys, n, m, _, _ => rfl
  | x :: xs, [], n, m, _, _ => rfl
  | x :: xs, y :: ys, n, m, h1, h2 => by
    have h1' : (x.dat n && datL xs n) = true := h1
    have h2' : (y.dat m && datL ys m) = true := h2
    rw [Bool.and_eq_true] at h1' h2'
    show (PyData.eqv x.toD y.toD && PyData.eqvAll (toDL xs) (toDL ys)) = (x.eqv y && eqvL xs ys)
    rw [P.eqD h1'.1 h2'.1, eqDL h1'.2 h2'.2]
end
end
def pEq (x y : P) : Option P := if x.dat 60 && y.dat 60 then some (.bl (x.eqv y)) else none
def pNe (x y : P) : Option P := if x.dat 60 && y.dat 60 then some (.bl (!x.eqv y)) else none
section
variable {X : Cx} {W : WX} {a b c : Expr} {ma mb mc : ME} {pos : Pos}
theorem ok_eqD {K : PySem.W.Frag} : BinOk K (rEqD K) pEq := by
  intro io F S H x y v w z Q st rx ry e k
  unfold pEq at e
  split at e
  · rename_i hd
    rw [Bool.and_eq_true] at hd
    cases e
    refine ⟨x.toD, y.toD, Rep.dp hd.1 (rx.now st.sub), Rep.dp hd.2 (ry.now st.sub), P.shp (by decide) hd.1, P.shp (by decide) hd.2, ?_⟩
    rw [P.eqD hd.1 hd.2]
    exact k F H _ Nxt.refl st rfl
  · cases e
theorem ok_neD {K : PySem.W.Frag} : BinOk K (rNeD K) pNe := by
  intro io F S H x y v w z Q st rx ry e k
  unfold pNe at e
  split at e
  · rename_i hd
    rw [Bool.and_eq_true] at hd
    cases e
    refine ⟨x.toD, y.toD, Rep.dp hd.1 (rx.now st.sub), Rep.dp hd.2 (ry.now st.sub), P.shp (by decide) hd.1, P.shp (by decide) hd.2, ?_⟩
    rw [P.eqD hd.1 hd.2]
    exact k F H _ Nxt.refl st rfl
  · cases e
theorem oe_eq {k : Nat} (hr : Room k X.A) (ha : OE X W a ma) (hb : OE X W b mb) : OE X W (.Compare a [.Eq] [b] pos) (eBin pEq ma mb) := oe_cmp (op_eqD hr.units) ok_eqD ha hb (nomark _)
theorem oe_ne {k : Nat} (hr : Room k X.A) (ha : OE X W a ma) (hb : OE X W b mb) : OE X W (.Compare a [.NotEq] [b] pos) (eBin pNe ma mb) := oe_cmp (op_neD hr.units) ok_neD ha hb (nomark _)
theorem ot_eq {k : Nat} (hr : Room k X.A) (ha : OE X W a ma) (hb : OE X W b mb) : OT X W (.Compare a [.Eq] [b] pos) (tVal (eBin pEq ma mb)) := ot_cmp (op_eqD hr.units) ok_eqD ha hb (nomark _)
theorem ot_ne {k : Nat} (hr : Room k X.A) (ha : OE X W a ma) (hb : OE X W b mb) : OT X W (.Compare a [.NotEq] [b] pos) (tVal (eBin pNe ma mb)) := ot_cmp (op_neD hr.units) ok_neD ha hb (nomark _)
end
def int2 (f : Int → Int → Option P) (x y : P) : Option P := match x with
  | .int i => (match y with
    | .int j => f i j
    | _ => none)
  | _ => none
def pI (g : Int → Int → Int) : P → P → Option P := int2 fun i j => some (.int (g i j))
def pIC (C : Int → Int → Bool) (g : Int → Int → Int) : P → P → Option P := int2 fun i j => if C i j then some (.int (g i j)) else none
def pIB (g : Int → Int → Bool) : P → P → Option P := int2 fun i j => some (.bl (g i j))
section
variable {K : PySem.W.Frag} {F : Hp} {H : Hp}
theorem two_int {x y : P} {v w : V} {z : P} {f : Int → Int → Option P} (rx : RepR K F H x v) (ry : RepR K F H y w) (e : int2 f x y = some z) : ∃ i j, v = .int i ∧ w = .int j ∧ f i j = some z := by
  cases x with
  | int i =>
    cases y with
    | int j => exact ⟨i, j, rx, ry, e⟩
    | _ => cases e
  | _ => cases e
theorem ok_I0 {g : Int → Int → Int} : BinOk K (rI0 fun i j => .int (g i j)) (pI g) := by
  intro io F S H x y v w z Q st rx ry e k
  obtain ⟨i, j, rfl, rfl, e⟩ := two_int rx ry e
  cases e
  exact ⟨i, j, rfl, rfl, k F H _ Nxt.refl st rfl⟩
theorem ok_B0 {g : Int → Int → Bool} : BinOk K (rI0 fun i j => .bl (g i j)) (pIB g) := by
  intro io F S H x y v w z Q st rx ry e k
  obtain ⟨i, j, rfl, rfl, e⟩ := two_int rx ry e
  cases e
  exact ⟨i, j, rfl, rfl, k F H _ Nxt.refl st rfl⟩
theorem ok_IC {C : Int → Int → Prop} {B : Int → Int → Bool} {g : Int → Int → Int} (hB : ∀ i j, B i j = true → C i j) : BinOk K (rI C fun i j => .int (g i j)) (pIC B g) := by
  intro io F S H x y v w z Q st rx ry e k
  obtain ⟨i, j, rfl, rfl, e⟩ := two_int rx ry e
  split at e
  · rename_i hb
    cases e
    exact ⟨i, j, rfl, rfl, hB i j hb, k F H _ Nxt.refl st rfl⟩
  · cases e
end
def bMul (i j : Int) : Bool := (decide (-(2 ^ 64) < i) && decide (i < 2 ^ 64)) || (decide (-(2 ^ 64) < j) && decide (j < 2 ^ 64))
def bDiv (_ j : Int) : Bool := decide (0 < j) && decide (j < 1073741824)
def bPow (i j : Int) : Bool := decide (0 ≤ j) && (decide (j ≤ 1000000) && decide (i.natAbs < 2 ^ 64))
def bMod (_ j : Int) : Bool := decide (0 < j)
def bShr (_ j : Int) : Bool := decide (0 ≤ j)
theorem bMul_ok (i j : Int) (h : bMul i j = true) : CMul i j := by
  unfold bMul at h
  simp only [Bool.or_eq_true, Bool.and_eq_true, decide_eq_true_eq] at h
  exact h
theorem bDiv_ok (i j : Int) (h : bDiv i j = true) : CDiv i j := by
  unfold bDiv at h
  simp only [Bool.and_eq_true, decide_eq_true_eq] at h
  exact h
theorem bPow_ok (i j : Int) (h : bPow i j = true) : CPow i j := by
  unfold bPow at h
  simp only [Bool.and_eq_true, decide_eq_true_eq] at h
  exact h
def pAdd : P → P → Option P
  | .int i, .int j => some (.int (i + j))
  | .str x, .str y => if x.length + y.length ≤ 100000 then some (.str (x ++ y)) else none
  | .lst x, .lst y => if x.length + y.length ≤ 100000 then some (.lst (x ++ y)) else none
  | .tup x, .tup y => if x.length + y.length ≤ 100000 then some (.tup (x ++ y)) else none
  | _, _ => none
def rAddAny (K : PySem.W.Frag) : R2 := fun x y H Q => ((rI0 fun i j => .int (i + j)) x y H Q ∨ (fun x y H Q => ∃ i j, x = V.str i ∧ y = V.str j ∧ i.length + j.length ≤ sizeLine ∧ Q (V.str (i ++ j)) H) x y H Q) ∨ (rCat x y H Q ∨ rCatA K x y H Q)
theorem op_addAny {X : Cx} : OpR X (binaryOp .Add) (rAddAny X.K) := OpR.or (OpR.or op_add op_add_str) (OpR.or op_cat op_catA)
theorem strOf_length (x : List Nat) : (strOf x).length = x.length := by
  show x.toArray.size = x.length
  simp
theorem strOf_append (x y : List Nat) : strOf x ++ strOf y = strOf (x ++ y) := by
  show (⟨x.toArray ++ y.toArray⟩ : Str) = ⟨(x ++ y).toArray⟩
  simp
section
variable {K : PySem.W.Frag}
theorem ok_add : BinOk K (rAddAny K) pAdd := by
  intro io F S H x y v w z Q st rx ry e k
  cases x with
  | int i =>
    cases y with
    | int j =>
      cases e
      have rx : _ = _ := rx
      have ry : _ = _ := ry
      subst rx; subst ry
      exact .inl (.inl ⟨i, j, rfl, rfl, k F H _ Nxt.refl st rfl⟩)
    | _ => cases e
  | str i =>
    cases y with
    | str j =>
      have e : (if i.length + j.length ≤ 100000 then some (P.str (i ++ j)) else none) = some z := e
      split at e
      · rename_i hz
        cases e
        have rx : _ = _ := rx
        have ry : _ = _ := ry
        subst rx; subst ry
        refine .inl (.inr ⟨_, _, rfl, rfl, by rw [strOf_length, strOf_length]; exact sz5 hz, ?_⟩)
        rw [strOf_append]
        exact k F H _ Nxt.refl st rfl
      · cases e
    | _ => cases e
  | lst i =>
    cases y with
    | lst j =>
      have e : (if i.length + j.length ≤ 100000 then some (P.lst (i ++ j)) else none) = some z := e
      split at e
      · rename_i hz
        cases e
        obtain ⟨a, vs, rfl, ha, ra⟩ := rx
        obtain ⟨b, ws, rfl, hb, rb⟩ := ry
        refine .inr (.inl ⟨a, b, vs, ws, rfl, rfl, ha, hb, by rw [ra.length, rb.length]; exact sz5 hz, fun p hp => ?_⟩)
        obtain ⟨s3, n3⟩ := st.froze (o := .lst (vs ++ ws)) hp
        exact k _ _ _ n3 s3 ⟨p, _, rfl, upd_same, RepL.mono n3.fr (ra.append rb)⟩
      · cases e
    | _ => cases e
  | tup i =>
    cases y with
    | tup j =>
      have e : (if i.length + j.length ≤ 100000 then some (P.tup (i ++ j)) else none) = some z := e
      split at e
      · rename_i hz
        cases e
        obtain ⟨a, vs, rfl, ha, ra⟩ := rx
        obtain ⟨b, ws, rfl, hb, rb⟩ := ry
        have l1 := ra.length
        have l2 := rb.length
        refine .inr (.inr ⟨a, b, vs, ws, rfl, rfl, sqt_mono st.sub ha, sqt_mono st.sub hb, by rw [l1, l2]; exact sz5 hz, fun h0 => ?_, fun h0 h1 => ?_, fun h0 h1 p hp => ?_⟩)
        · subst h0
          have : i = [] := List.length_eq_zero_iff.mp l1.symm
          subst this
          exact k F H _ Nxt.refl st ⟨b, ws, rfl, hb, rb⟩
        · subst h1
          have : j = [] := List.length_eq_zero_iff.mp l2.symm
          subst this
          rw [List.append_nil] at k
          exact k F H _ Nxt.refl st ⟨a, vs, rfl, ha, ra⟩
        · obtain ⟨s3, n3⟩ := st.froze (o := .tup (vs ++ ws)) hp
          exact k _ _ _ n3 s3 ⟨p, _, rfl, SqT.of upd_same, RepL.mono n3.fr (ra.append rb)⟩
      · cases e
    | _ => cases e
  | _ => cases e
end
section
variable {X : Cx} {W : WX} {a b c : Expr} {ma mb mc : ME} {pos : Pos}
theorem oe_add (ha : OE X W a ma) (hb : OE X W b mb) : OE X W (.BinOp a .Add b pos) (eBin pAdd ma mb) := oe_bin op_addAny ok_add ha hb
theorem oe_sub (ha : OE X W a ma) (hb : OE X W b mb) : OE X W (.BinOp a .Sub b pos) (eBin (pI fun i j => i - j) ma mb) := oe_bin op_sub ok_I0 ha hb
theorem oe_fdiv (ha : OE X W a ma) (hb : OE X W b mb) : OE X W (.BinOp a .FloorDiv b pos) (eBin (pIC bDiv fun i j => i / j) ma mb) := oe_bin op_fdiv (ok_IC bDiv_ok) ha hb
theorem oe_mod (ha : OE X W a ma) (hb : OE X W b mb) : OE X W (.BinOp a .Mod b pos) (eBin (pIC bMod fun i j => i % j) ma mb) := oe_bin op_mod (ok_IC fun _ _ h => of_decide_eq_true h) ha hb
theorem oe_pow (ha : OE X W a ma) (hb : OE X W b mb) : OE X W (.BinOp a .Pow b pos) (eBin (pIC bPow fun i j => i ^ j.toNat) ma mb) := oe_bin op_pow (ok_IC bPow_ok) ha hb
theorem oe_shl (ha : OE X W a ma) (hb : OE X W b mb) : OE X W (.BinOp a .LShift b pos) (eBin (pIC bPow fun i j => i * 2 ^ j.toNat) ma mb) := oe_bin op_shl (ok_IC bPow_ok) ha hb
theorem oe_shr (ha : OE X W a ma) (hb : OE X W b mb) : OE X W (.BinOp a .RShift b pos) (eBin (pIC bShr fun i j => i / 2 ^ j.toNat) ma mb) := oe_bin op_shr (ok_IC fun _ _ h => of_decide_eq_true h) ha hb
theorem oe_band (ha : OE X W a ma) (hb : OE X W b mb) : OE X W (.BinOp a .BitAnd b pos) (eBin (pI Builtin.bitAnd) ma mb) := oe_bin op_and ok_I0 ha hb
theorem oe_bor (ha : OE X W a ma) (hb : OE X W b mb) : OE X W (.BinOp a .BitOr b pos) (eBin (pI Builtin.bitOr) ma mb) := oe_bin op_or ok_I0 ha hb
theorem oe_lt (ha : OE X W a ma) (hb : OE X W b mb) : OE X W (.Compare a [.Lt] [b] pos) (eBin (pIB fun i j => decide (i < j)) ma mb) := oe_cmp op_lt ok_B0 ha hb (nomark _)
theorem oe_ge (ha : OE X W a ma) (hb : OE X W b mb) : OE X W (.Compare a [.GtE] [b] pos) (eBin (pIB fun i j => decide (j ≤ i)) ma mb) := oe_cmp op_ge ok_B0 ha hb (nomark _)
theorem ot_lt (ha : OE X W a ma) (hb : OE X W b mb) : OT X W (.Compare a [.Lt] [b] pos) (tVal (eBin (pIB fun i j => decide (i < j)) ma mb)) := ot_cmp op_lt ok_B0 ha hb (nomark _)
theorem ot_gt (ha : OE X W a ma) (hb : OE X W b mb) : OT X W (.Compare a [.Gt] [b] pos) (tVal (eBin (pIB fun i j => decide (j < i)) ma mb)) := ot_cmp op_gt ok_B0 ha hb (nomark _)
theorem ot_ge (ha : OE X W a ma) (hb : OE X W b mb) : OT X W (.Compare a [.GtE] [b] pos) (tVal (eBin (pIB fun i j => decide (j ≤ i)) ma mb)) := ot_cmp op_ge ok_B0 ha hb (nomark _)
def pNeg : P → Option P
  | .int i => some (.int (-i))
  | _ => none
def pInv : P → Option P
  | .int i => some (.int (Builtin.bitNot i))
  | _ => none
theorem ok_neg {K : PySem.W.Frag} : UnOk K (rU fun i => .int (-i)) pNeg := by
  intro io F S H x v z Q st rx e k
  cases x with
  | int i =>
    cases e
    exact ⟨i, rx, k F H _ Nxt.refl st rfl⟩
  | _ => cases e
theorem ok_inv {K : PySem.W.Frag} : UnOk K (rU fun i => .int (Builtin.bitNot i)) pInv := by
  intro io F S H x v z Q st rx e k
  cases x with
  | int i =>
    cases e
    exact ⟨i, rx, k F H _ Nxt.refl st rfl⟩
  | _ => cases e
theorem oe_neg (ha : OE X W a ma) : OE X W (.UnaryOp .USub a pos) (eUn pNeg ma) := oe_un un_neg ok_neg ha
theorem oe_inv (ha : OE X W a ma) : OE X W (.UnaryOp .Invert a pos) (eUn pInv ma) := oe_un un_inv ok_inv ha
def isN (x : Vl) : Bool := match x with
  | .p .non => true
  | _ => false
def eIsN (a : ME) : ME := fun ρ S => (a ρ S).bind fun x S1 => .ok (.p (.bl (isN x))) S1
def eNotN (a : ME) : ME := fun ρ S => (a ρ S).bind fun x S1 => .ok (.p (.bl (!isN x))) S1
theorem isN_ok {K : PySem.W.Frag} {io : Io} {F : Hp} {d : Vl} {v : V} (r : RepV K io F d v) : decide (v = .non) = isN d := by
  cases d with
  | c k =>
    obtain ⟨a, _, rfl⟩ := r
    exact decide_eq_false fun q => nomatch q
  | p x =>
    cases x with
    | non =>
      have r : _ = _ := r
      subst r
      rfl
    | bl _ =>
      have r : _ = _ := r
      subst r
      exact decide_eq_false fun q => nomatch q
    | int _ =>
      have r : _ = _ := r
      subst r
      exact decide_eq_false fun q => nomatch q
    | str _ =>
      have r : _ = _ := r
      subst r
      exact decide_eq_false fun q => nomatch q
    | tup _ =>
      obtain ⟨a, _, rfl, _⟩ := r
      exact decide_eq_false fun q => nomatch q
    | lst _ =>
      obtain ⟨a, _, rfl, _⟩ := r
      exact decide_eq_false fun q => nomatch q
    | dct _ _ =>
      obtain ⟨a, _, rfl, _⟩ := r
      exact decide_eq_false fun q => nomatch q
    | obj _ _ _ =>
      obtain ⟨a, _, _, rfl, _⟩ := r
      exact decide_eq_false fun q => nomatch q
    | scr _ =>
      obtain ⟨a, _, rfl, _⟩ := r
      exact decide_eq_false fun q => nomatch q
    | ty _ =>
      have r : _ = _ := r
      subst r
      exact decide_eq_false fun q => nomatch q
    | glo _ =>
      have r : _ = _ := r
      subst r
      exact decide_eq_false fun q => nomatch q
    | rwp _ _ =>
      obtain ⟨a, _, _, rfl, _⟩ := r
      exact decide_eq_false fun q => nomatch q
    | raw _ =>
      have r : _ = _ := r
      subst r
      exact decide_eq_false fun q => nomatch q
theorem ot_isN {j : Nat} {p2 : Pos} (ha : OE X W a ma) : OT X W (.Compare a [.Is] [.Constant .none j p2] pos) (tVal (eIsN ma)) := by
  obtain ⟨t, p, ha⟩ := ha
  refine ⟨_, pt_cmp (pc_isN p), fun ρ S io F σ H Q st en h => ?_⟩
  have h : RG X.K RepB ((ma ρ S).bind fun x S1 => Res.ok (isN x) S1) io F H Q (fun c d H' => W c d σ H') := by
    unfold tVal eIsN at h
    cases q : ma ρ S with
    | ok d S1 => rw [q] at h; exact h
    | exc c x S1 => rw [q] at h; exact h
    | bad => rw [q] at h; exact h
  refine ha ρ S io F σ H _ st en (RG.bind h fun d S1 io1 F1 H1 v e1 n1 s1 r1 h1 => ?_)
  refine ⟨isN d, by rw [isN_ok r1], RG.val (R := RepB) (d := isN d) (v := isN d) s1 rfl h1⟩
theorem ot_notN {j : Nat} {p2 : Pos} (ha : OE X W a ma) : OT X W (.Compare a [.IsNot] [.Constant .none j p2] pos) (tVal (eNotN ma)) := by
  obtain ⟨t, p, ha⟩ := ha
  refine ⟨_, pt_cmp (pc_notN p), fun ρ S io F σ H Q st en h => ?_⟩
  have h : RG X.K RepB ((ma ρ S).bind fun x S1 => Res.ok (!isN x) S1) io F H Q (fun c d H' => W c d σ H') := by
    unfold tVal eNotN at h
    cases q : ma ρ S with
    | ok d S1 => rw [q] at h; exact h
    | exc c x S1 => rw [q] at h; exact h
    | bad => rw [q] at h; exact h
  refine ha ρ S io F σ H _ st en (RG.bind h fun d S1 io1 F1 H1 v e1 n1 s1 r1 h1 => ?_)
  refine ⟨!isN d, by rw [isN_ok r1], RG.val (R := RepB) (d := !isN d) (v := !isN d) s1 rfl h1⟩
end
end Mir

namespace Mir
open PySem L2
def RepRs (K : PySem.W.Frag) (F H : Hp) : List P → List V → Prop
  | [], vs => vs = []
  | x :: xs, vs => ∃ v r, vs = v :: r ∧ RepR K F H x v ∧ RepRs K F H xs r
def rds (S : Sto) : List Vl → Option (List P)
  | [] => some []
  | d :: ds => (rd S d).bind fun x => (rds S ds).bind fun xs => some (x :: xs)
def call1 (f : List P → Option P) (ds : List Vl) (S : Sto) : Res Vl := match rds S ds with
  | some xs => (match f xs with
    | some z => .ok (.p z) S
    | none => .bad)
  | none => .bad
def eCall (f : List P → Option P) (a : MA) : ME := fun ρ S => (a ρ S).bind fun ds S1 => call1 f ds S1
def CallOk (K : PySem.W.Frag) (r : List V → Hp → VK → Prop) (f : List P → Option P) : Prop := ∀ (io : Io) (F : Hp) (S : Sto) (H : Hp) (xs : List P) (vs : List V) (z : P) (Q : VK), Sta K io F S H → RepRs K F H xs vs → f xs = some z →
  (∀ F' H' u, Nxt io F H io F' H' → Sta K io F' S H' → Rep K F' z u → Q u H') → r vs H Q
section
variable {K : PySem.W.Frag} {io : Io} {F : Hp} {S : Sto} {H : Hp}
theorem Sta.rds (st : Sta K io F S H) : ∀ {ds : List Vl} {vs : List V} {xs : List P}, RepVs K io F ds vs → Mir.rds S ds = some xs → RepRs K F H xs vs
  | [], vs, xs, h, e => by
    have e' : [] = xs := Option.some.inj e
    subst e'
    exact h
  | d :: ds, vs, xs, ⟨v, r, e1, h1, h2⟩, e => by
    subst e1
    have e : ((Mir.rd S d).bind fun x => (Mir.rds S ds).bind fun xs => some (x :: xs)) = some xs := e
    cases q : Mir.rd S d with
    | none => rw [q] at e; cases e
    | some x =>
      rw [q] at e
      cases q2 : Mir.rds S ds with
      | none => rw [q2] at e; cases e
      | some ys =>
        rw [q2] at e
        have e' : x :: ys = xs := Option.some.inj e
        subst e'
        exact ⟨v, r, rfl, st.rd h1 q, Sta.rds st h2 q2⟩
theorem Sta.call1 {r : List V → Hp → VK → Prop} {f : List P → Option P} {ds : List Vl} {vs : List V} {Q : VK} {E : XK} (hf : CallOk K r f) (st : Sta K io F S H) (r1 : RepVs K io F ds vs)
    (h : RG K (RepA K) (Mir.call1 f ds S) io F H Q E) : r vs H Q := by
  unfold Mir.call1 at h
  cases e1 : Mir.rds S ds with
  | none => rw [e1] at h; exact h.elim
  | some x =>
    rw [e1] at h
    dsimp only at h
    cases e3 : f x with
    | none => rw [e3] at h; exact h.elim
    | some z =>
      rw [e3] at h
      exact hf io F S H x vs z Q st (st.rds r1 e1) e3 fun F' H' u n s rp => h io F' H' u n s rp
theorem RepRs.one {x : P} {vs : List V} (h : RepRs K F H [x] vs) : ∃ v, vs = [v] ∧ RepR K F H x v := by
  obtain ⟨v, r, e, h1, h2⟩ := h
  have h2 : r = [] := h2
  subst h2
  exact ⟨v, e, h1⟩
theorem RepRs.two {x y : P} {vs : List V} (h : RepRs K F H [x, y] vs) : ∃ v w, vs = [v, w] ∧ RepR K F H x v ∧ RepR K F H y w := by
  obtain ⟨v, r, e, h1, h2⟩ := h
  obtain ⟨w, rfl, h3⟩ := h2.one
  exact ⟨v, w, e, h1, h3⟩
end
section
variable {X : Cx} {W : WX} {a b c e o : Expr} {ma mb mc mo : ME} {pos : Pos} {es : List Expr} {mas : MA}
theorem oe_callB {x : Str} {id : String} {p : Pos} {r : List V → Hp → VK → Prop} {f : List P → Option P} (hc : CallR X (.builtin id) r) (hf : CallOk X.K r f) (hm : X.mg x = none) (hv : bootBuiltins x = some (.builtin id)) (ha : OA X W (e :: es) mas)
    (hg : Gl X x := by rfl) (hn : x ≠ "__name__" := by decide) (hdb : (x == ("__debug__" : Str)) = false := by decide) (hs : starEach (e :: es) X.env = (false, eval e X.env) :: starEach es X.env := by rfl) (hplain : (backTo pos (starEach es X.env)).any (·.1) = false := by rfl) :
    OE X W (.Call (.Name x p) (e :: es) [] pos) (eCall f mas) := by
  obtain ⟨t, q, ha⟩ := ha
  refine ⟨_, pe_callB hc hg hm hv q hn hdb hs hplain, fun ρ S io F σ H Q st en h => ?_⟩
  exact ha ρ S io F σ H _ st en (RG.bind h fun d S1 io1 F1 H1 v e1 n1 s1 r1 h1 => s1.call1 hf r1 h1)
theorem oe_callTy {x : Str} {T : String} {p : Pos} {r : List V → Hp → VK → Prop} {f : List P → Option P} (hc : CallR X (.type T) r) (hf : CallOk X.K r f) (hm : X.mg x = none) (hv : bootBuiltins x = some (.type T)) (ha : OA X W (e :: es) mas)
    (hg : Gl X x := by rfl) (hn : x ≠ "__name__" := by decide) (hdb : (x == ("__debug__" : Str)) = false := by decide) (hs : starEach (e :: es) X.env = (false, eval e X.env) :: starEach es X.env := by rfl) (hplain : (backTo pos (starEach es X.env)).any (·.1) = false := by rfl) :
    OE X W (.Call (.Name x p) (e :: es) [] pos) (eCall f mas) := by
  obtain ⟨t, q, ha⟩ := ha
  refine ⟨_, pe_callTy hc hg hm hv q hn hdb hs hplain, fun ρ S io F σ H Q st en h => ?_⟩
  exact ha ρ S io F σ H _ st en (RG.bind h fun d S1 io1 F1 H1 v e1 n1 s1 r1 h1 => s1.call1 hf r1 h1)
def tyP (T : String) : P → Bool
  | .str _ => T == "str"
  | .int _ => T == "int"
  | .lst _ => T == "list"
  | .dct _ _ => T == "dict"
  | _ => false
theorem tyP_ok {K : PySem.W.Frag} {F H : Hp} {T : String} {x : P} {v : V} (h : tyP T x = true) (r : RepR K F H x v) : tyV K T v H := by
  cases x with
  | str _ =>
    have r : _ = _ := r
    subst r
    have h' : (T == "str") = true := h
    exact eq_of_beq h'
  | int _ =>
    have r : _ = _ := r
    subst r
    have h' : (T == "int") = true := h
    exact eq_of_beq h'
  | lst _ =>
    obtain ⟨a, vs, rfl, h1, _⟩ := r
    have h' : (T == "list") = true := h
    exact .inl ⟨eq_of_beq h', vs, SqL.of h1⟩
  | dct _ _ =>
    obtain ⟨a, vs, rfl, h1, _⟩ := r
    have h' : (T == "dict") = true := h
    exact .inr (.inr (.inl ⟨eq_of_beq h', .inl ⟨vs, h1⟩⟩))
  | _ => cases h
def rM (r : V → List V → Hp → VK → Prop) : List V → Hp → VK → Prop := fun vs H Q => match vs with
  | x :: xs => r x xs H Q
  | [] => False
def eMthT (T : String) (f : P → List P → Option P) (o : ME) (a : MA) : ME := fun ρ S => (o ρ S).bind fun d S1 => match rd S1 d with
  | some x => if tyP T x then (a ρ S1).bind fun ds S2 => call1 (fun xs => match xs with
    | x :: r => f x r
    | [] => none) (d :: ds) S2 else .bad
  | none => .bad
theorem oe_bm {T id : String} {name : Str} {apos : Pos} {r : V → List V → Hp → VK → Prop} {f : P → List P → Option P} (pa : PlainAttrs T) (slot : Slot T name id) (hty : typeOf (.builtin id) = pure (.type "method_descriptor")) (hm : MtR X id r)
    (hf : CallOk X.K (rM r) fun xs => match xs with
      | x :: r => f x r
      | [] => none) (ho : OE X W o mo) (ha : OA X W (e :: es) mas)
    (hbase : attributeBase o name X.env (eval o X.env) = eval o X.env := by rfl)
    (hfew : ((backTo pos (starEach (e :: es) X.env)).all (fun x => !x.1) && (backToKw pos (keywordEach [] X.env)).all (fun x => x.1.isSome)
      && decide ((e :: es).length + ([] : List Keyword).length + (if ([] : List Keyword).isEmpty then 0 else 1) < 30)) = true := by rfl)
    (hline : (apos.endLine == pos.line) = true := by rfl) (hs : starEach (e :: es) X.env = (false, eval e X.env) :: starEach es X.env := by rfl) (hplain : (backTo pos (starEach es X.env)).any (·.1) = false := by rfl) :
    OE X W (.Call (.Attribute o name apos) (e :: es) [] pos) (eMthT T f mo mas) := by
  obtain ⟨u, p, ho⟩ := ho
  obtain ⟨t, q, ha⟩ := ha
  refine ⟨_, pe_bm pa slot hty hm p q hbase hfew hline hs hplain, fun ρ S io F σ H Q st en h => ?_⟩
  refine ho ρ S io F σ H _ st en (RG.bind h fun d S1 io1 F1 H1 v e1 n1 s1 r1 h1 => ?_)
  cases q1 : rd S1 d with
  | none => rw [q1] at h1; exact h1.elim
  | some x =>
    rw [q1] at h1
    dsimp only at h1
    by_cases q2 : tyP T x = true
    · rw [if_pos q2] at h1
      refine ⟨tyP_ok q2 (s1.rd r1 q1), ?_⟩
      refine ha ρ S1 io1 F1 σ H1 _ s1 (en.nxt n1) (RG.bind h1 fun d2 S2 io2 F2 H2 v2 e2 n2 s2 r2 h2 => ?_)
      exact s2.call1 hf (ds := d :: d2) (vs := v :: v2) ⟨v, v2, rfl, r1.mono n2.han n2.fr, r2⟩ h2
    · rw [if_neg q2] at h1
      exact h1.elim
theorem IxR.or {r r' : R2} (h : IxR X r) (h' : IxR X r') : IxR X (fun x y H Q => r x y H Q ∨ r' x y H Q) := by
  intro value slice pins s σ H x y v u Q I rx ry q hs
  rcases q with q | q
  · exact h value slice pins s σ H x y v u Q I rx ry q hs
  · exact h' value slice pins s σ H x y v u Q I rx ry q hs
def pIx : P → P → Option P
  | .lst xs, .int i => atI xs i
  | .scr xs, .int i => atI xs i
  | .tup xs, .int i => atI xs i
  | .str x, .int i => if x.length ≤ 100000 then (atI x i).map fun c => .str [c] else none
  | _, _ => none
theorem atI_rep {K : PySem.W.Frag} {F : Hp} {xs : List P} {vs : List V} {i : Int} {z : P} (r : RepL K F xs vs) (e : atI xs i = some z) : ∃ v, atI vs i = some v ∧ Rep K F z v := by
  obtain ⟨j, h1, h2, h3, h4, h5⟩ := atI_get e
  obtain ⟨v, hv, hr⟩ := r.get h2
  refine ⟨v, ?_, hr⟩
  unfold atI at e ⊢
  rw [r.length]
  cases q : ixN xs.length i with
  | none => rw [q] at e; cases e
  | some k =>
    rw [q] at e
    have e : xs[k]? = some z := e
    obtain ⟨w, hw, hrw⟩ := r.get e
    have q2 := (ixN_seq q).1
    rw [h1] at q2
    cases q2
    show vs[j]? = some v
    exact hv
theorem ok_ix {K : PySem.W.Frag} : BinOk K (fun x y H Q => (rIxL K x y H Q ∨ rIxT K x y H Q) ∨ rIxS x y H Q) pIx := by
  intro io F S H x y v w z Q st rx ry e k
  cases y with
  | int i =>
    have ry : _ = _ := ry
    subst ry
    cases x with
    | lst xs =>
      obtain ⟨a, vs, rfl, ha, ra⟩ := rx
      obtain ⟨u, hu, hr⟩ := atI_rep ra e
      exact .inl (.inl ⟨a, vs, i, u, rfl, rfl, SqL.of ha, hu, k F H u Nxt.refl st hr⟩)
    | scr xs =>
      obtain ⟨a, vs, rfl, ha, ra⟩ := rx
      obtain ⟨u, hu, hr⟩ := atI_rep ra e
      exact .inl (.inl ⟨a, vs, i, u, rfl, rfl, sql_mono st.sub ha, hu, k F H u Nxt.refl st hr⟩)
    | tup xs =>
      obtain ⟨a, vs, rfl, ha, ra⟩ := rx
      obtain ⟨u, hu, hr⟩ := atI_rep ra e
      exact .inl (.inr ⟨a, vs, i, u, rfl, rfl, sqt_mono st.sub ha, hu, k F H u Nxt.refl st hr⟩)
    | str xs =>
      have rx : _ = _ := rx
      subst rx
      have e : (if xs.length ≤ 100000 then (atI xs i).map fun c => P.str [c] else none) = some z := e
      split at e
      · rename_i hz
        cases q : atI xs i with
        | none => rw [q] at e; cases e
        | some c =>
          rw [q] at e
          have e' : P.str [c] = z := Option.some.inj e
          subst e'
          exact .inr ⟨_, i, c, rfl, rfl, by rw [strOf_length]; exact sz5 hz, by show atI xs i = some c; exact q, k F H _ Nxt.refl st rfl⟩
      · cases e
    | _ => cases e
  | _ => cases x <;> cases e
def OO (X : Cx) (W : WX) (e : Option Expr) (m : En → Sto → Res (Option Int)) : Prop := ∃ t, PO X e t ∧ ∀ (ρ : En) (S : Sto) (io : Io) (F : Hp) (σ : St) (H : Hp) (Q : Option Int → Hp → Prop), Sta X.K io F S H → Mir.Env X.K io F ρ σ →
  RG X.K (fun _ _ a b => a = b) (m ρ S) io F H Q (fun c d H' => W c d σ H') → t σ H Q
def oNo : En → Sto → Res (Option Int) := fun _ S => .ok none S
def intV (d : Vl) (S : Sto) : Res (Option Int) := match d with
  | .p (.int i) => .ok (some i) S
  | _ => .bad
def oYes (m : ME) : En → Sto → Res (Option Int) := fun ρ S => (m ρ S).bind intV
theorem oo_none : OO X W none oNo := ⟨_, po_none, fun ρ S io F σ H Q st en h => RG.val (R := fun _ _ a b => a = b) (d := (none : Option Int)) (v := none) st rfl h⟩
theorem oo_some (he : OE X W e ma) : OO X W (some e) (oYes ma) := by
  obtain ⟨t, p, he⟩ := he
  refine ⟨_, po_some p, fun ρ S io F σ H Q st en h => ?_⟩
  refine he ρ S io F σ H _ st en (RG.bind h fun d S1 io1 F1 H1 v e1 n1 s1 r1 h1 => ?_)
  cases d with
  | c k => exact h1.elim
  | p x =>
    cases x with
    | int i => exact ⟨i, r1, RG.val (R := fun _ _ a b => a = b) (d := some i) (v := some i) s1 rfl h1⟩
    | _ => exact h1.elim
def cutP {A : Type} (xs : List A) (lo hi : Option Int) : List A := (xs.drop (HT.sIx xs.length 0 lo)).take (HT.sIx xs.length xs.length hi - HT.sIx xs.length 0 lo)
def pSl (lo hi : Option Int) : P → Option P
  | .lst xs => some (.lst (cutP xs lo hi))
  | .scr xs => some (.lst (cutP xs lo hi))
  | .tup xs => some (.tup (cutP xs lo hi))
  | .str x => if x.length ≤ 100000 then some (.str (cutP x lo hi)) else none
  | _ => none
def eSl (m : ME) (l h : En → Sto → Res (Option Int)) : ME := fun ρ S => (m ρ S).bind fun d S1 => (l ρ S1).bind fun lo S2 => (h ρ S2).bind fun hi S3 => op1 (pSl lo hi) d S3
theorem cutP_rep {K : PySem.W.Frag} {F : Hp} {xs : List P} {vs : List V} (r : RepL K F xs vs) (lo hi : Option Int) : RepL K F (cutP xs lo hi) (cutV vs lo hi) := by
  unfold cutP cutV
  rw [r.length]
  exact (r.drop _).take _
theorem ok_sl {K : PySem.W.Frag} {lo hi : Option Int} : UnOk K (fun x H Q => (rSlL K x lo hi H Q ∨ rSlA K x lo hi H Q) ∨ rSlS x lo hi H Q) (pSl lo hi) := by
  intro io F S H x v z Q st rx e k
  cases x with
  | lst xs =>
    cases e
    obtain ⟨a, vs, rfl, ha, ra⟩ := rx
    refine .inl (.inl ⟨a, vs, rfl, SqL.of ha, fun p hp => ?_⟩)
    obtain ⟨s3, n3⟩ := st.froze (o := .lst (cutV vs lo hi)) hp
    exact k _ _ _ n3 s3 ⟨p, _, rfl, upd_same, RepL.mono n3.fr (cutP_rep ra lo hi)⟩
  | scr xs =>
    cases e
    obtain ⟨a, vs, rfl, ha, ra⟩ := rx
    refine .inl (.inl ⟨a, vs, rfl, sql_mono st.sub ha, fun p hp => ?_⟩)
    obtain ⟨s3, n3⟩ := st.froze (o := .lst (cutV vs lo hi)) hp
    exact k _ _ _ n3 s3 ⟨p, _, rfl, upd_same, RepL.mono n3.fr (cutP_rep ra lo hi)⟩
  | tup xs =>
    cases e
    obtain ⟨a, vs, rfl, ha, ra⟩ := rx
    refine .inl (.inr ⟨a, vs, rfl, sqt_mono st.sub ha, fun hw => ?_, fun hw p hp => ?_⟩)
    · have hx : cutP xs lo hi = xs := by
        unfold cutP
        rw [← ra.length, hw.1, hw.2, ra.length]
        simp
      rw [hx] at k
      exact k F H _ Nxt.refl st ⟨a, vs, rfl, ha, ra⟩
    · obtain ⟨s3, n3⟩ := st.froze (o := .tup (cutV vs lo hi)) hp
      exact k _ _ _ n3 s3 ⟨p, _, rfl, SqT.of upd_same, RepL.mono n3.fr (cutP_rep ra lo hi)⟩
  | str xs =>
    have rx : _ = _ := rx
    subst rx
    have e : (if xs.length ≤ 100000 then some (P.str (cutP xs lo hi)) else none) = some z := e
    split at e
    · rename_i hz
      cases e
      refine .inr ⟨_, rfl, by rw [strOf_length]; exact sz5 hz, ?_⟩
      have q : cutS (strOf xs) lo hi = strOf (cutP xs lo hi) := by
        unfold cutS cutP
        rw [strOf_length]
        rfl
      rw [q]
      exact k F H _ Nxt.refl st rfl
    · cases e
  | _ => cases e
theorem oe_slice {lo hi : Option Expr} {p2 : Pos} {ml mh : En → Sto → Res (Option Int)} (ha : OE X W a ma) (hl : OO X W lo ml) (hh : OO X W hi mh) : OE X W (.Subscript a (.Slice lo hi none p2) pos) (eSl ma ml mh) := by
  obtain ⟨t, p, ha⟩ := ha
  obtain ⟨tl, pl, hl⟩ := hl
  obtain ⟨th, ph, hh⟩ := hh
  refine ⟨_, pe_slice (SlR.or (SlR.or sl_list sl_tupA) sl_str) p pl ph, fun ρ S io F σ H Q st en h => ?_⟩
  refine ha ρ S io F σ H _ st en (RG.bind h fun d S1 io1 F1 H1 v e1 n1 s1 r1 h1 => ?_)
  refine hl ρ S1 io1 F1 σ H1 _ s1 (en.nxt n1) (RG.bind h1 fun lo' S2 io2 F2 H2 v2 e2 n2 s2 r2 h2 => ?_)
  subst r2
  refine hh ρ S2 io2 F2 σ H2 _ s2 (en.nxt (n1.trans n2)) (RG.bind h2 fun hi' S3 io3 F3 H3 v3 e3 n3 s3 r3 h3 => ?_)
  subst r3
  exact s3.op1 (r := fun x H Q => (rSlL X.K x lo' hi' H Q ∨ rSlA X.K x lo' hi' H Q) ∨ rSlS x lo' hi' H Q) ok_sl (r1.mono (n2.trans n3).han (n2.trans n3).fr) h3
end
end Mir

namespace Mir
open PySem L2
theorem CallR.or {X : Cx} {f : Value} {r r' : List V → Hp → VK → Prop} (h : CallR X f r) (h' : CallR X f r') : CallR X f (fun xs H Q => r xs H Q ∨ r' xs H Q) := by
  intro pins s σ H xs us Q I rv q
  rcases q with q | q
  · exact h pins s σ H xs us Q I rv q
  · exact h' pins s σ H xs us Q I rv q
def intsOf : List P → Option (List Int)
  | [] => some []
  | .int i :: r => (intsOf r).map (i :: ·)
  | _ :: _ => none
def blsOf : List P → Option (List Bool)
  | [] => some []
  | .bl i :: r => (blsOf r).map (i :: ·)
  | _ :: _ => none
def strsOf : List P → Option (List (List Nat))
  | [] => some []
  | .str i :: r => (strsOf r).map (i :: ·)
  | _ :: _ => none
section
variable {K : PySem.W.Frag} {F H : Hp}
theorem intsOf_rep : ∀ {xs : List P} {vs : List V} {ns : List Int}, RepL K F xs vs → intsOf xs = some ns → vs = ns.map V.int ∧ xs = ns.map P.int
  | [], vs, ns, r, e => by
    have e' : [] = ns := Option.some.inj e
    subst e'
    exact ⟨r, rfl⟩
  | x :: xs, vs, ns, ⟨v, w, e1, h1, h2⟩, e => by
    subst e1
    cases x with
    | int i =>
      have e : (intsOf xs).map (i :: ·) = some ns := e
      cases q : intsOf xs with
      | none => rw [q] at e; cases e
      | some ms =>
        rw [q] at e
        have e' : i :: ms = ns := Option.some.inj e
        subst e'
        obtain ⟨a, b⟩ := intsOf_rep h2 q
        have h1 : v = .int i := h1
        rw [a, b, h1]
        exact ⟨rfl, rfl⟩
    | _ => cases e
theorem blsOf_rep : ∀ {xs : List P} {vs : List V} {ns : List Bool}, RepL K F xs vs → blsOf xs = some ns → vs = ns.map V.bl ∧ xs = ns.map P.bl
  | [], vs, ns, r, e => by
    have e' : [] = ns := Option.some.inj e
    subst e'
    exact ⟨r, rfl⟩
  | x :: xs, vs, ns, ⟨v, w, e1, h1, h2⟩, e => by
    subst e1
    cases x with
    | bl i =>
      have e : (blsOf xs).map (i :: ·) = some ns := e
      cases q : blsOf xs with
      | none => rw [q] at e; cases e
      | some ms =>
        rw [q] at e
        have e' : i :: ms = ns := Option.some.inj e
        subst e'
        obtain ⟨a, b⟩ := blsOf_rep h2 q
        have h1 : v = .bl i := h1
        rw [a, b, h1]
        exact ⟨rfl, rfl⟩
    | _ => cases e
theorem strsOf_rep : ∀ {xs : List P} {vs : List V} {ns : List (List Nat)}, RepL K F xs vs → strsOf xs = some ns → vs = (ns.map strOf).map V.str ∧ xs = ns.map P.str
  | [], vs, ns, r, e => by
    have e' : [] = ns := Option.some.inj e
    subst e'
    exact ⟨r, rfl⟩
  | x :: xs, vs, ns, ⟨v, w, e1, h1, h2⟩, e => by
    subst e1
    cases x with
    | str i =>
      have e : (strsOf xs).map (i :: ·) = some ns := e
      cases q : strsOf xs with
      | none => rw [q] at e; cases e
      | some ms =>
        rw [q] at e
        have e' : i :: ms = ns := Option.some.inj e
        subst e'
        obtain ⟨a, b⟩ := strsOf_rep h2 q
        have h1 : v = .str (strOf i) := h1
        rw [a, b, h1]
        exact ⟨rfl, rfl⟩
    | _ => cases e
theorem repL_ints : ∀ (ns : List Int), RepL K F (ns.map P.int) (ns.map V.int)
  | [] => .nil
  | n :: ns => .cons rfl (repL_ints ns)
theorem repL_strs : ∀ (ns : List (List Nat)), RepL K F (ns.map P.str) ((ns.map strOf).map V.str)
  | [] => .nil
  | n :: ns => .cons rfl (repL_strs ns)
end
@[simp] theorem intsOf_map (ns : List Int) : intsOf (ns.map P.int) = some ns := by
  induction ns with
  | nil => rfl
  | cons n ns ih => show (intsOf (ns.map P.int)).map (n :: ·) = _; rw [ih]; rfl
@[simp] theorem blsOf_map (ns : List Bool) : blsOf (ns.map P.bl) = some ns := by
  induction ns with
  | nil => rfl
  | cons n ns ih => show (blsOf (ns.map P.bl)).map (n :: ·) = _; rw [ih]; rfl
@[simp] theorem strsOf_map (ns : List (List Nat)) : strsOf (ns.map P.str) = some ns := by
  induction ns with
  | nil => rfl
  | cons n ns ih => show (strsOf (ns.map P.str)).map (n :: ·) = _; rw [ih]; rfl
def ins (n : Int) : List Int → List Int
  | [] => [n]
  | m :: r => if n ≤ m then n :: m :: r else m :: ins n r
def isort : List Int → List Int
  | [] => []
  | n :: r => ins n (isort r)
theorem ins_perm (n : Int) : ∀ l : List Int, (ins n l).Perm (n :: l)
  | [] => List.Perm.refl _
  | m :: r => by
    unfold ins
    split
    · exact List.Perm.refl _
    · exact ((ins_perm n r).cons m).trans (List.Perm.swap n m r)
theorem isort_perm : ∀ l : List Int, (isort l).Perm l
  | [] => List.Perm.refl _
  | n :: r => (ins_perm n (isort r)).trans ((isort_perm r).cons n)
theorem ins_sorted (n : Int) : ∀ {l : List Int}, l.Pairwise (· ≤ ·) → (ins n l).Pairwise (· ≤ ·)
  | [], _ => by unfold ins; exact List.pairwise_singleton _ _
  | m :: r, h => by
    unfold ins
    rw [List.pairwise_cons] at h
    split
    · rename_i hn
      refine List.pairwise_cons.mpr ⟨fun a ha => ?_, List.pairwise_cons.mpr h⟩
      rcases List.mem_cons.mp ha with rfl | ha
      · exact hn
      · exact Int.le_trans hn (h.1 a ha)
    · rename_i hn
      refine List.pairwise_cons.mpr ⟨fun a ha => ?_, ins_sorted n h.2⟩
      rcases List.mem_cons.mp ((ins_perm n r).mem_iff.mp ha) with rfl | ha
      · omega
      · exact h.1 a ha
theorem isort_sorted : ∀ l : List Int, (isort l).Pairwise (· ≤ ·)
  | [] => .nil
  | n :: r => ins_sorted n (isort_sorted r)
theorem isort_unique {l l' : List Int} (p : l'.Perm l) (h : l'.Pairwise (· ≤ ·)) : l' = isort l :=
  List.Perm.eq_of_pairwise (fun a b _ _ h1 h2 => Int.le_antisymm h1 h2) h (isort_sorted l) (p.trans (isort_perm l).symm)
def pLen : List P → Option P
  | [.lst xs] => some (.int xs.length)
  | [.scr xs] => some (.int xs.length)
  | [.tup xs] => some (.int xs.length)
  | [.str x] => if x.length ≤ 100000 then some (.int x.length) else none
  | [.dct ks xs] => some (.int ks.length)
  | _ => none
def pSum : List P → Option P
  | [.lst xs] => (intsOf xs).map fun ns => .int ns.sum
  | _ => none
def pAll : List P → Option P
  | [.lst xs] => (blsOf xs).map fun ns => .bl (ns.all id)
  | _ => none
def pAny : List P → Option P
  | [.lst xs] => (blsOf xs).map fun ns => .bl (ns.any id)
  | _ => none
def pSorted : List P → Option P
  | [.lst xs] => (intsOf xs).map fun ns => .lst ((isort ns).map P.int)
  | _ => none
def pTuple : List P → Option P
  | [.lst xs] => some (.tup xs)
  | [.tup xs] => some (.tup xs)
  | _ => none
def pList : List P → Option P
  | [.lst xs] => some (.lst xs)
  | [.tup xs] => some (.lst xs)
  | _ => none
def pAbs : List P → Option P
  | [.int i] => some (.int (if i < 0 then -i else i))
  | _ => none
def pInt : List P → Option P
  | [.int i] => some (.int i)
  | [.bl b] => some (.int (if b then 1 else 0))
  | _ => none
def pMax2 : List P → Option P
  | [.int i, .int j] => some (.int (if j > i then j else i))
  | _ => none
def pMin2 : List P → Option P
  | [.int i, .int j] => some (.int (if j < i then j else i))
  | _ => none
def pDivmod : List P → Option P
  | [.int i, .int j] => if bDiv i j then some (.tup [.int (i / j), .int (i % j)]) else none
  | _ => none
section
variable {K : PySem.W.Frag}
theorem ok_len : CallOk K (fun xs H Q => (∃ x n, xs = [x] ∧ LenV K x H n ∧ Q (.int n) H) ∨ (∃ a kvs, xs = [V.ref a] ∧ H a = some (.dK kvs) ∧ Q (.int kvs.length) H)) pLen := by
  intro io F S H xs vs z Q st rx e k
  match xs, e with
  | [.lst xs], e =>
    obtain ⟨v, rfl, r1⟩ := rx.one
    obtain ⟨a, vs, rfl, ha, ra⟩ := r1
    cases e
    refine .inl ⟨_, vs.length, rfl, .inl ⟨vs, SqL.of ha, rfl⟩, ?_⟩
    rw [ra.length]
    exact k F H _ Nxt.refl st rfl
  | [.scr xs], e =>
    obtain ⟨v, rfl, r1⟩ := rx.one
    obtain ⟨a, vs, rfl, ha, ra⟩ := r1
    cases e
    refine .inl ⟨_, vs.length, rfl, .inl ⟨vs, sql_mono st.sub ha, rfl⟩, ?_⟩
    rw [ra.length]
    exact k F H _ Nxt.refl st rfl
  | [.tup xs], e =>
    obtain ⟨v, rfl, r1⟩ := rx.one
    obtain ⟨a, vs, rfl, ha, ra⟩ := r1
    cases e
    refine .inl ⟨_, vs.length, rfl, .inr ⟨vs, sqt_mono st.sub ha, rfl⟩, ?_⟩
    rw [ra.length]
    exact k F H _ Nxt.refl st rfl
  | [.str xs], e =>
    obtain ⟨v, rfl, r1⟩ := rx.one
    have r1 : v = .str (strOf xs) := r1
    subst r1
    have e : (if xs.length ≤ 100000 then some (P.int xs.length) else none) = some z := e
    split at e
    · rename_i hz
      cases e
      refine .inl ⟨_, xs.length, rfl, ⟨by rw [strOf_length]; exact sz5 hz, (strOf_length xs).symm⟩, ?_⟩
      exact k F H _ Nxt.refl st rfl
    · cases e
  | [.dct ks xs], e =>
    obtain ⟨v, rfl, r1⟩ := rx.one
    obtain ⟨a, kvs, rfl, ha, ra, rb⟩ := r1
    cases e
    refine .inr ⟨a, kvs, rfl, ha, ?_⟩
    have := ra.length
    rw [List.length_map] at this
    rw [this]
    exact k F H _ Nxt.refl st rfl
theorem ok_sum : CallOk K (rSum K) pSum := by
  intro io F S H xs vs z Q st rx e k
  match xs, e with
  | [.lst xs], e =>
    obtain ⟨v, rfl, r1⟩ := rx.one
    obtain ⟨a, vs, rfl, ha, ra⟩ := r1
    have e : (intsOf xs).map (fun ns => P.int ns.sum) = some z := e
    cases q : intsOf xs with
    | none => rw [q] at e; cases e
    | some ns =>
      rw [q] at e
      cases e
      obtain ⟨h1, h2⟩ := intsOf_rep ra q
      subst h1
      exact ⟨a, ns, rfl, SqL.of ha, k F H _ Nxt.refl st rfl⟩
theorem ok_all : CallOk K (rAll K) pAll := by
  intro io F S H xs vs z Q st rx e k
  match xs, e with
  | [.lst xs], e =>
    obtain ⟨v, rfl, r1⟩ := rx.one
    obtain ⟨a, vs, rfl, ha, ra⟩ := r1
    have e : (blsOf xs).map (fun ns => P.bl (ns.all id)) = some z := e
    cases q : blsOf xs with
    | none => rw [q] at e; cases e
    | some ns =>
      rw [q] at e
      cases e
      obtain ⟨h1, h2⟩ := blsOf_rep ra q
      subst h1
      exact ⟨a, ns, rfl, SqL.of ha, k F H _ Nxt.refl st rfl⟩
theorem ok_any : CallOk K (rAny K) pAny := by
  intro io F S H xs vs z Q st rx e k
  match xs, e with
  | [.lst xs], e =>
    obtain ⟨v, rfl, r1⟩ := rx.one
    obtain ⟨a, vs, rfl, ha, ra⟩ := r1
    have e : (blsOf xs).map (fun ns => P.bl (ns.any id)) = some z := e
    cases q : blsOf xs with
    | none => rw [q] at e; cases e
    | some ns =>
      rw [q] at e
      cases e
      obtain ⟨h1, h2⟩ := blsOf_rep ra q
      subst h1
      exact ⟨a, ns, rfl, SqL.of ha, k F H _ Nxt.refl st rfl⟩
theorem ok_sorted : CallOk K (rSortedI K) pSorted := by
  intro io F S H xs vs z Q st rx e k
  match xs, e with
  | [.lst xs], e =>
    obtain ⟨v, rfl, r1⟩ := rx.one
    obtain ⟨a, vs, rfl, ha, ra⟩ := r1
    have e : (intsOf xs).map (fun ns => P.lst ((isort ns).map P.int)) = some z := e
    cases q : intsOf xs with
    | none => rw [q] at e; cases e
    | some ns =>
      rw [q] at e
      cases e
      obtain ⟨h1, h2⟩ := intsOf_rep ra q
      subst h1
      refine ⟨a, ns, rfl, SqL.of ha, fun ns' p hp hs hn => ?_⟩
      have := isort_unique hp hs
      subst this
      obtain ⟨s3, n3⟩ := st.froze (o := .lst ((isort ns).map V.int)) hn
      exact k _ _ _ n3 s3 ⟨p, _, rfl, upd_same, repL_ints _⟩
theorem ok_tuple : CallOk K (fun xs H Q => ∃ p ys, xs = [.ref p] ∧ ((SqL K H p ys ∧ ∀ l, H l = none → Q (.ref l) (upd H l (.tup ys))) ∨ (SqT K H p ys ∧ Q (.ref p) H))) pTuple := by
  intro io F S H xs vs z Q st rx e k
  match xs, e with
  | [.lst xs], e =>
    obtain ⟨v, rfl, r1⟩ := rx.one
    obtain ⟨a, vs, rfl, ha, ra⟩ := r1
    cases e
    refine ⟨a, vs, rfl, .inl ⟨SqL.of ha, fun p hp => ?_⟩⟩
    obtain ⟨s3, n3⟩ := st.froze (o := .tup vs) hp
    exact k _ _ _ n3 s3 ⟨p, _, rfl, SqT.of upd_same, RepL.mono n3.fr ra⟩
  | [.tup xs], e =>
    obtain ⟨v, rfl, r1⟩ := rx.one
    obtain ⟨a, vs, rfl, ha, ra⟩ := r1
    cases e
    exact ⟨a, vs, rfl, .inr ⟨sqt_mono st.sub ha, k F H _ Nxt.refl st ⟨a, vs, rfl, ha, ra⟩⟩⟩
theorem ok_list : CallOk K (fun xs H Q => ∃ p ys, xs = [.ref p] ∧ (SqL K H p ys ∨ SqT K H p ys) ∧ ∀ l, H l = none → Q (.ref l) (upd H l (.lst ys))) pList := by
  intro io F S H xs vs z Q st rx e k
  match xs, e with
  | [.lst xs], e =>
    obtain ⟨v, rfl, r1⟩ := rx.one
    obtain ⟨a, vs, rfl, ha, ra⟩ := r1
    cases e
    refine ⟨a, vs, rfl, .inl (SqL.of ha), fun p hp => ?_⟩
    obtain ⟨s3, n3⟩ := st.froze (o := .lst vs) hp
    exact k _ _ _ n3 s3 ⟨p, _, rfl, upd_same, RepL.mono n3.fr ra⟩
  | [.tup xs], e =>
    obtain ⟨v, rfl, r1⟩ := rx.one
    obtain ⟨a, vs, rfl, ha, ra⟩ := r1
    cases e
    refine ⟨a, vs, rfl, .inr (sqt_mono st.sub ha), fun p hp => ?_⟩
    obtain ⟨s3, n3⟩ := st.froze (o := .lst vs) hp
    exact k _ _ _ n3 s3 ⟨p, _, rfl, upd_same, RepL.mono n3.fr ra⟩
theorem ok_abs : CallOk K (fun xs H Q => ∃ i, xs = [.int i] ∧ Q (.int (if i < 0 then -i else i)) H) pAbs := by
  intro io F S H xs vs z Q st rx e k
  match xs, e with
  | [.int i], e =>
    obtain ⟨v, rfl, r1⟩ := rx.one
    have r1 : v = .int i := r1
    subst r1
    cases e
    exact ⟨i, rfl, k F H _ Nxt.refl st rfl⟩
theorem ok_int : CallOk K (fun xs H Q => (∃ i, xs = [.int i] ∧ Q (.int i) H) ∨ ∃ k, xs = [.bl k] ∧ Q (.int (if k then 1 else 0)) H) pInt := by
  intro io F S H xs vs z Q st rx e k
  match xs, e with
  | [.int i], e =>
    obtain ⟨v, rfl, r1⟩ := rx.one
    have r1 : v = .int i := r1
    subst r1
    cases e
    exact .inl ⟨i, rfl, k F H _ Nxt.refl st rfl⟩
  | [.bl i], e =>
    obtain ⟨v, rfl, r1⟩ := rx.one
    have r1 : v = .bl i := r1
    subst r1
    cases e
    exact .inr ⟨i, rfl, k F H _ Nxt.refl st rfl⟩
theorem ok_max2 : CallOk K (fun xs H Q => ∃ i j, xs = [.int i, .int j] ∧ Q (.int (if j > i then j else i)) H) pMax2 := by
  intro io F S H xs vs z Q st rx e k
  match xs, e with
  | [.int i, .int j], e =>
    obtain ⟨v, w, rfl, r1, r2⟩ := rx.two
    have r1 : v = .int i := r1
    have r2 : w = .int j := r2
    subst r1; subst r2
    cases e
    exact ⟨i, j, rfl, k F H _ Nxt.refl st rfl⟩
theorem ok_min2 : CallOk K (fun xs H Q => ∃ i j, xs = [.int i, .int j] ∧ Q (.int (if j < i then j else i)) H) pMin2 := by
  intro io F S H xs vs z Q st rx e k
  match xs, e with
  | [.int i, .int j], e =>
    obtain ⟨v, w, rfl, r1, r2⟩ := rx.two
    have r1 : v = .int i := r1
    have r2 : w = .int j := r2
    subst r1; subst r2
    cases e
    exact ⟨i, j, rfl, k F H _ Nxt.refl st rfl⟩
theorem ok_divmod : CallOk K (fun xs H Q => ∃ i j, xs = [.int i, .int j] ∧ CDiv i j ∧ ∀ p, H p = none → Q (.ref p) (upd H p (.tup [.int (i / j), .int (i % j)]))) pDivmod := by
  intro io F S H xs vs z Q st rx e k
  match xs, e with
  | [.int i, .int j], e =>
    obtain ⟨v, w, rfl, r1, r2⟩ := rx.two
    have r1 : v = .int i := r1
    have r2 : w = .int j := r2
    subst r1; subst r2
    have e : (if bDiv i j then some (P.tup [.int (i / j), .int (i % j)]) else none) = some z := e
    split at e
    · rename_i hd
      cases e
      refine ⟨i, j, rfl, bDiv_ok i j hd, fun p hp => ?_⟩
      obtain ⟨s3, n3⟩ := st.froze (o := .tup [.int (i / j), .int (i % j)]) hp
      exact k _ _ _ n3 s3 ⟨p, _, rfl, SqT.of upd_same, .cons rfl (.cons rfl .nil)⟩
    · cases e
end
def txL (x : Str) : List Nat := x.cps.toList
theorem strOf_txL (x : Str) : strOf (txL x) = x := strOf_toList x
def pJoin : P → List P → Option P
  | .str s, [.lst xs] => (strsOf xs).bind fun ys => if (ys.map (·.length)).sum + ys.length * s.length ≤ 1000000 then some (.str (TL.joinL s ys)) else none
  | .str s, [.tup xs] => (strsOf xs).bind fun ys => if (ys.map (·.length)).sum + ys.length * s.length ≤ 1000000 then some (.str (TL.joinL s ys)) else none
  | _, _ => none
def pSplit : P → List P → Option P
  | .str x, [.str s] => if s ≠ [] ∧ (s.all fun c => decide (c < 256)) = true ∧ x.length ≤ 1000000 then some (.lst ((TL.spl s 0 [] x).map P.str)) else none
  | _, _ => none
def partL (s x : List Nat) : List Nat × List Nat × List Nat := match TL.par s [] x with
  | some (a, b) => (a, s, b)
  | none => (x, [], [])
def pPartition : P → List P → Option P
  | .str x, [.str s] => if s ≠ [] ∧ x.length ≤ 100000 then some (.tup [.str (partL s x).1, .str (partL s x).2.1, .str (partL s x).2.2]) else none
  | _, _ => none
def flatP : P → Bool
  | .non => true
  | .bl _ => true
  | .int _ => true
  | .str _ => true
  | _ => false
def idxP (y : P) : List P → Nat → Option Nat
  | [], _ => none
  | x :: xs, i => if x.eqv y then some i else idxP y xs (i + 1)
def pIndex : P → List P → Option P
  | .lst xs, [y] => if flatP y && xs.all flatP then (idxP y xs 0).map fun (i : Nat) => .int i else none
  | _, _ => none
section
variable {K : PySem.W.Frag} {F H : Hp}
theorem flat_rep {x : P} {v : V} (h : flatP x = true) (r : Rep K F x v) : flatV v = true := by
  cases x with
  | non => have r : _ = _ := r; subst r; rfl
  | bl _ => have r : _ = _ := r; subst r; rfl
  | int _ => have r : _ = _ := r; subst r; rfl
  | str _ => have r : _ = _ := r; subst r; rfl
  | _ => cases h
theorem flat_eqv {x y : P} {v w : V} (hx : flatP x = true) (hy : flatP y = true) (r : Rep K F x v) (q : Rep K F y w) : eqV v w = x.eqv y := by
  cases x with
  | non =>
    have r : _ = _ := r
    subst r
    cases y <;> first | (have q : _ = _ := q; subst q; rfl) | cases hy
  | bl _ =>
    have r : _ = _ := r
    subst r
    cases y <;> first | (have q : _ = _ := q; subst q; rfl) | cases hy
  | int _ =>
    have r : _ = _ := r
    subst r
    cases y <;> first | (have q : _ = _ := q; subst q; rfl) | cases hy
  | str x =>
    have r : _ = _ := r
    subst r
    cases y with
    | str y =>
      have q : _ = _ := q
      subst q
      show (strOf x == strOf y) = (x == y)
      exact strOf_beq x y
    | non => have q : _ = _ := q; subst q; rfl
    | bl _ => have q : _ = _ := q; subst q; rfl
    | int _ => have q : _ = _ := q; subst q; rfl
    | _ => cases hy
  | _ => cases hx
theorem flats_rep : ∀ {xs : List P} {vs : List V}, xs.all flatP = true → RepL K F xs vs → vs.all flatV = true
  | [], vs, _, r => by
    have r : _ = _ := r
    subst r
    rfl
  | x :: xs, vs, h, ⟨v, w, e1, h1, h2⟩ => by
    subst e1
    rw [List.all_cons, Bool.and_eq_true] at h
    rw [List.all_cons, flat_rep h.1 h1, flats_rep h.2 h2]
    rfl
theorem idxP_some : ∀ {y : P} {xs : List P} {i n : Nat}, idxP y xs i = some n → ∃ j x, n = i + j ∧ xs[j]? = some x ∧ x.eqv y = true ∧ ∀ (m : Nat) (z : P), m < j → xs[m]? = some z → z.eqv y = false
  | y, [], i, n, e => by cases e
  | y, x :: xs, i, n, e => by
    unfold idxP at e
    split at e
    · rename_i h
      cases e
      exact ⟨0, x, rfl, rfl, h, fun m z hm => by omega⟩
    · rename_i h
      obtain ⟨j, z, h1, h2, h3, h4⟩ := idxP_some e
      refine ⟨j + 1, z, by omega, by simpa using h2, h3, fun m w hm hw => ?_⟩
      cases m with
      | zero =>
        have : x = w := by simpa using hw
        subst this
        exact Bool.eq_false_iff.mpr h
      | succ m => exact h4 m w (by omega) (by simpa using hw)
theorem ok_index : CallOk K (rM (rIndex K)) fun xs => match xs with
    | x :: r => pIndex x r
    | [] => none := by
  intro io F S H xs vs z Q st rx e k
  match xs, e with
  | [.lst xs, y], e =>
    obtain ⟨v, w, rfl, r1, r2⟩ := rx.two
    obtain ⟨a, vs, rfl, ha, ra⟩ := r1
    have e : (if flatP y && xs.all flatP then (idxP y xs 0).map fun (i : Nat) => P.int i else none) = some z := e
    split at e
    · rename_i hf
      rw [Bool.and_eq_true] at hf
      cases q : idxP y xs 0 with
      | none => rw [q] at e; cases e
      | some n =>
        rw [q] at e
        cases e
        obtain ⟨j, x, h1, h2, h3, h4⟩ := idxP_some q
        have h1 : n = j := by omega
        subst h1
        have ry : Rep K F y w := by
          cases y <;> first | exact r2 | cases hf.1
        obtain ⟨u, hu, hr⟩ := ra.get h2
        have fx : flatP x = true := List.all_eq_true.mp hf.2 x (List.mem_of_getElem? h2)
        refine ⟨a, vs, w, n, u, rfl, rfl, SqL.of ha, flat_rep hf.1 ry, flats_rep hf.2 ra, hu, by rw [flat_eqv fx hf.1 hr ry]; exact h3, fun m z' hm hz' => ?_, k F H _ Nxt.refl st rfl⟩
        obtain ⟨x', hx', hr'⟩ := ra.getV hz'
        rw [flat_eqv (List.all_eq_true.mp hf.2 x' (List.mem_of_getElem? hx')) hf.1 hr' ry]
        exact h4 m x' hm hx'
    · cases e
theorem joinL_ok (s : List Nat) (ys : List (List Nat)) : Txt.join (strOf s) (ys.map strOf) = strOf (TL.joinL s ys) := by
  have h := TL.tl_join (strOf s) (ys.map strOf)
  have h2 : (ys.map strOf).map TL.tl = ys := by
    rw [List.map_map]
    have : (TL.tl ∘ strOf) = id := by
      funext x
      rfl
    rw [this, List.map_id]
  rw [h2] at h
  have h3 : Txt.join (strOf s) (ys.map strOf) = Str.join (strOf s) (ys.map strOf) := TL.join_eq _ _
  rw [h3]
  have h4 : TL.tl (Str.join (strOf s) (ys.map strOf)) = TL.joinL s ys := h
  rw [← h4]
  exact (strOf_toList _).symm
theorem len_strOf (ys : List (List Nat)) : ((ys.map strOf).map (·.length)) = ys.map (·.length) := by
  rw [List.map_map]
  apply List.map_congr_left
  intro a _
  exact strOf_length a
theorem ok_join : CallOk K (rM (fun x xs H Q => ∃ a p, ∃ ys : List Str, x = .str a ∧ xs = [.ref p] ∧ (SqL K H p (ys.map V.str) ∨ SqT K H p (ys.map V.str)) ∧
    (ys.map (·.length)).sum + ys.length * a.length ≤ 16777216 ∧ Q (.str (Txt.join a ys)) H)) fun xs => match xs with
    | x :: r => pJoin x r
    | [] => none := by
  intro io F S H xs vs z Q st rx e k
  match xs, e with
  | [.str s, .lst xs], e =>
    obtain ⟨v, w, rfl, r1, r2⟩ := rx.two
    have r1 : v = .str (strOf s) := r1
    subst r1
    obtain ⟨a, vs, rfl, ha, ra⟩ := r2
    have e : ((strsOf xs).bind fun ys => if (ys.map (·.length)).sum + ys.length * s.length ≤ 1000000 then some (P.str (TL.joinL s ys)) else none) = some z := e
    cases q : strsOf xs with
    | none => rw [q] at e; cases e
    | some ys =>
      rw [q] at e
      have e : (if (ys.map (·.length)).sum + ys.length * s.length ≤ 1000000 then some (P.str (TL.joinL s ys)) else none) = some z := e
      split at e
      · rename_i hz
        cases e
        obtain ⟨h1, h2⟩ := strsOf_rep ra q
        subst h1
        refine ⟨strOf s, a, ys.map strOf, rfl, rfl, .inl (SqL.of ha), ?_, ?_⟩
        · rw [len_strOf, List.length_map, strOf_length]
          exact Nat.le_trans hz (by decide)
        · rw [joinL_ok]
          exact k F H _ Nxt.refl st rfl
      · cases e
  | [.str s, .tup xs], e =>
    obtain ⟨v, w, rfl, r1, r2⟩ := rx.two
    have r1 : v = .str (strOf s) := r1
    subst r1
    obtain ⟨a, vs, rfl, ha, ra⟩ := r2
    have e : ((strsOf xs).bind fun ys => if (ys.map (·.length)).sum + ys.length * s.length ≤ 1000000 then some (P.str (TL.joinL s ys)) else none) = some z := e
    cases q : strsOf xs with
    | none => rw [q] at e; cases e
    | some ys =>
      rw [q] at e
      have e : (if (ys.map (·.length)).sum + ys.length * s.length ≤ 1000000 then some (P.str (TL.joinL s ys)) else none) = some z := e
      split at e
      · rename_i hz
        cases e
        obtain ⟨h1, h2⟩ := strsOf_rep ra q
        subst h1
        refine ⟨strOf s, a, ys.map strOf, rfl, rfl, .inr (sqt_mono st.sub ha), ?_, ?_⟩
        · rw [len_strOf, List.length_map, strOf_length]
          exact Nat.le_trans hz (by decide)
        · rw [joinL_ok]
          exact k F H _ Nxt.refl st rfl
      · cases e
theorem map_strOf_txL (ys : List Str) : ((ys.map txL).map strOf) = ys := by
  rw [List.map_map]
  have : (strOf ∘ txL) = id := by
    funext x
    exact strOf_txL x
  rw [this, List.map_id]
theorem split_ok {x s : List Nat} (h1 : s ≠ []) (h2 : (s.all fun c => decide (c < 256)) = true) : Txt.split (strOf x) (strOf s) = (TL.spl s 0 [] x).map strOf := by
  have h := TL.split_spl (strOf x) (strOf s) h1 (TL.kind_ok (by
    show s.toArray.all _ = true
    rw [List.all_toArray]
    exact h2))
  have h3 : ((Txt.split (strOf x) (strOf s)).map txL).map strOf = (TL.spl s 0 [] x).map strOf := congrArg (List.map strOf) h
  rw [map_strOf_txL] at h3
  exact h3
theorem ok_split : CallOk K (rM (fun x xs H Q => ∃ a b, x = .str a ∧ xs = [.str b] ∧ (b.length == 0) = false ∧ a.length + 2 ≤ sizeLine ∧ rNewStrs (Txt.split a b) H Q)) fun xs => match xs with
    | x :: r => pSplit x r
    | [] => none := by
  intro io F S H xs vs z Q st rx e k
  match xs, e with
  | [.str x, .str s], e =>
    obtain ⟨v, w, rfl, r1, r2⟩ := rx.two
    have r1 : v = .str (strOf x) := r1
    have r2 : w = .str (strOf s) := r2
    subst r1; subst r2
    have e : (if s ≠ [] ∧ (s.all fun c => decide (c < 256)) = true ∧ x.length ≤ 1000000 then some (P.lst ((TL.spl s 0 [] x).map P.str)) else none) = some z := e
    split at e
    · rename_i hz
      cases e
      refine ⟨strOf x, strOf s, rfl, rfl, by rw [strOf_length]; simpa using hz.1, by rw [strOf_length]; exact Nat.le_trans (Nat.add_le_add_right hz.2.2 2) (by decide), fun p hp => ?_⟩
      rw [split_ok hz.1 hz.2.1]
      obtain ⟨s3, n3⟩ := st.froze (o := .lst (((TL.spl s 0 [] x).map strOf).map V.str)) hp
      exact k _ _ _ n3 s3 ⟨p, _, rfl, upd_same, repL_strs _⟩
    · cases e
theorem part_ok {x s : List Nat} (h1 : s ≠ []) : Txt.partition (strOf x) (strOf s) = (strOf (partL s x).1, strOf (partL s x).2.1, strOf (partL s x).2.2) := by
  have h := TL.partition_par (strOf x) (strOf s) h1
  rw [h]
  unfold partL
  show (match TL.par s [] x with | some (a, b) => _ | none => _) = _
  cases TL.par s [] x with
  | none => rfl
  | some q => rfl
theorem ok_partition : CallOk K (rM (fun x xs H Q => ∃ a b, x = .str a ∧ xs = [.str b] ∧ (b.length == 0) = false ∧ a.length ≤ sizeLine ∧
    ∀ p, H p = none → Q (.ref p) (upd H p (.tup [.str (Txt.partition a b).1, .str (Txt.partition a b).2.1, .str (Txt.partition a b).2.2])))) fun xs => match xs with
    | x :: r => pPartition x r
    | [] => none := by
  intro io F S H xs vs z Q st rx e k
  match xs, e with
  | [.str x, .str s], e =>
    obtain ⟨v, w, rfl, r1, r2⟩ := rx.two
    have r1 : v = .str (strOf x) := r1
    have r2 : w = .str (strOf s) := r2
    subst r1; subst r2
    have e : (if s ≠ [] ∧ x.length ≤ 100000 then some (P.tup [.str (partL s x).1, .str (partL s x).2.1, .str (partL s x).2.2]) else none) = some z := e
    split at e
    · rename_i hz
      cases e
      refine ⟨strOf x, strOf s, rfl, rfl, by rw [strOf_length]; simpa using hz.1, by rw [strOf_length]; exact sz5 hz.2, fun p hp => ?_⟩
      rw [part_ok hz.1]
      obtain ⟨s3, n3⟩ := st.froze (o := .tup [.str (strOf (partL s x).1), .str (strOf (partL s x).2.1), .str (strOf (partL s x).2.2)]) hp
      exact k _ _ _ n3 s3 ⟨p, _, rfl, SqT.of upd_same, .cons rfl (.cons rfl (.cons rfl .nil))⟩
    · cases e
end
section
variable {X : Cx} {W : WX} {a b c e o : Expr} {ma mb mc mo : ME} {pos p apos : Pos}
theorem oe_len (hm : X.mg "len" = none) (ha : OE X W a ma) (hg : Gl X "len" := by rfl) (hs : starEach [a] X.env = (false, eval a X.env) :: starEach [] X.env := by rfl) : OE X W (.Call (.Name "len" p) [a] [] pos) (eCall pLen (aCons ma aNil)) := oe_callB (CallR.or call_len call_lenD) ok_len hm PySem.boot_len (oa_cons ha oa_nil hs) hg (by decide) (by decide) hs rfl
theorem oe_sum (hc : X.calm = true) (hm : X.mg "sum" = none) (ha : OE X W a ma) (hg : Gl X "sum" := by rfl) (hs : starEach [a] X.env = (false, eval a X.env) :: starEach [] X.env := by rfl) : OE X W (.Call (.Name "sum" p) [a] [] pos) (eCall pSum (aCons ma aNil)) := oe_callB (cr_sum hc) ok_sum hm (by decide +kernel) (oa_cons ha oa_nil hs) hg (by decide) (by decide) hs rfl
theorem oe_all (hc : X.calm = true) (hm : X.mg "all" = none) (ha : OE X W a ma) (hg : Gl X "all" := by rfl) (hs : starEach [a] X.env = (false, eval a X.env) :: starEach [] X.env := by rfl) : OE X W (.Call (.Name "all" p) [a] [] pos) (eCall pAll (aCons ma aNil)) := oe_callB (cr_all hc) ok_all hm (by decide +kernel) (oa_cons ha oa_nil hs) hg (by decide) (by decide) hs rfl
theorem oe_any (hc : X.calm = true) (hm : X.mg "any" = none) (ha : OE X W a ma) (hg : Gl X "any" := by rfl) (hs : starEach [a] X.env = (false, eval a X.env) :: starEach [] X.env := by rfl) : OE X W (.Call (.Name "any" p) [a] [] pos) (eCall pAny (aCons ma aNil)) := oe_callB (cr_any hc) ok_any hm (by decide +kernel) (oa_cons ha oa_nil hs) hg (by decide) (by decide) hs rfl
theorem oe_sorted (hm : X.mg "sorted" = none) (ha : OE X W a ma) (hg : Gl X "sorted" := by rfl) (hs : starEach [a] X.env = (false, eval a X.env) :: starEach [] X.env := by rfl) : OE X W (.Call (.Name "sorted" p) [a] [] pos) (eCall pSorted (aCons ma aNil)) := oe_callB cr_sortedI ok_sorted hm (by decide +kernel) (oa_cons ha oa_nil hs) hg (by decide) (by decide) hs rfl
theorem oe_abs (hm : X.mg "abs" = none) (ha : OE X W a ma) (hg : Gl X "abs" := by rfl) (hs : starEach [a] X.env = (false, eval a X.env) :: starEach [] X.env := by rfl) : OE X W (.Call (.Name "abs" p) [a] [] pos) (eCall pAbs (aCons ma aNil)) := oe_callB call_abs ok_abs hm (by decide +kernel) (oa_cons ha oa_nil hs) hg (by decide) (by decide) hs rfl
theorem oe_max2 (hc : X.calm = true) (hm : X.mg "max" = none) (ha : OE X W a ma) (hb : OE X W b mb) (hg : Gl X "max" := by rfl) (hs : starEach [a, b] X.env = (false, eval a X.env) :: starEach [b] X.env := by rfl) (hs2 : starEach [b] X.env = (false, eval b X.env) :: starEach [] X.env := by rfl) (hp : (backTo pos (starEach [b] X.env)).any (·.1) = false := by rfl) :
    OE X W (.Call (.Name "max" p) [a, b] [] pos) (eCall pMax2 (aCons ma (aCons mb aNil))) := oe_callB (call_max2 hc) ok_max2 hm (by decide +kernel) (oa_cons ha (oa_cons hb oa_nil hs2) hs) hg (by decide) (by decide) hs hp
theorem oe_min2 (hc : X.calm = true) (hm : X.mg "min" = none) (ha : OE X W a ma) (hb : OE X W b mb) (hg : Gl X "min" := by rfl) (hs : starEach [a, b] X.env = (false, eval a X.env) :: starEach [b] X.env := by rfl) (hs2 : starEach [b] X.env = (false, eval b X.env) :: starEach [] X.env := by rfl) (hp : (backTo pos (starEach [b] X.env)).any (·.1) = false := by rfl) :
    OE X W (.Call (.Name "min" p) [a, b] [] pos) (eCall pMin2 (aCons ma (aCons mb aNil))) := oe_callB (call_min2 hc) ok_min2 hm (by decide +kernel) (oa_cons ha (oa_cons hb oa_nil hs2) hs) hg (by decide) (by decide) hs hp
theorem oe_divmod (hm : X.mg "divmod" = none) (ha : OE X W a ma) (hb : OE X W b mb) (hg : Gl X "divmod" := by rfl) (hs : starEach [a, b] X.env = (false, eval a X.env) :: starEach [b] X.env := by rfl) (hs2 : starEach [b] X.env = (false, eval b X.env) :: starEach [] X.env := by rfl) (hp : (backTo pos (starEach [b] X.env)).any (·.1) = false := by rfl) :
    OE X W (.Call (.Name "divmod" p) [a, b] [] pos) (eCall pDivmod (aCons ma (aCons mb aNil))) := oe_callB call_divmod ok_divmod hm (by decide +kernel) (oa_cons ha (oa_cons hb oa_nil hs2) hs) hg (by decide) (by decide) hs hp
theorem oe_tupleC (hm : X.mg "tuple" = none) (ha : OE X W a ma) (hg : Gl X "tuple" := by rfl) (hs : starEach [a] X.env = (false, eval a X.env) :: starEach [] X.env := by rfl) : OE X W (.Call (.Name "tuple" p) [a] [] pos) (eCall pTuple (aCons ma aNil)) := oe_callTy call_tuple_of ok_tuple hm (by decide +kernel) (oa_cons ha oa_nil hs) hg (by decide) (by decide) hs rfl
theorem oe_listC (hm : X.mg "list" = none) (ha : OE X W a ma) (hg : Gl X "list" := by rfl) (hs : starEach [a] X.env = (false, eval a X.env) :: starEach [] X.env := by rfl) : OE X W (.Call (.Name "list" p) [a] [] pos) (eCall pList (aCons ma aNil)) := oe_callTy call_list_of ok_list hm (by decide +kernel) (oa_cons ha oa_nil hs) hg (by decide) (by decide) hs rfl
theorem oe_intC (hm : X.mg "int" = none) (ha : OE X W a ma) (hg : Gl X "int" := by rfl) (hs : starEach [a] X.env = (false, eval a X.env) :: starEach [] X.env := by rfl) : OE X W (.Call (.Name "int" p) [a] [] pos) (eCall pInt (aCons ma aNil)) := oe_callTy call_int1 ok_int hm (by decide +kernel) (oa_cons ha oa_nil hs) hg (by decide) (by decide) hs rfl
theorem oe_index (ho : OE X W o mo) (ha : OE X W a ma) (hbase : attributeBase o "index" X.env (eval o X.env) = eval o X.env := by rfl) (hs : starEach [a] X.env = (false, eval a X.env) :: starEach [] X.env := by rfl) (hline : (apos.endLine == pos.line) = true := by rfl)
    (hfew : ((backTo pos (starEach [a] X.env)).all (fun x => !x.1) && (backToKw pos (keywordEach [] X.env)).all (fun x => x.1.isSome) && decide (([a] : List Expr).length + ([] : List Keyword).length + (if ([] : List Keyword).isEmpty then 0 else 1) < 30)) = true := by rfl) :
    OE X W (.Call (.Attribute o "index" apos) [a] [] pos) (eMthT "list" pIndex mo (aCons ma aNil)) := oe_bm PySem.F.plainAttrs_list PySem.F.slot_list_index PySem.F.type_list_index mt_index ok_index ho (oa_cons ha oa_nil hs) hbase hfew hline hs rfl
theorem oe_join (ho : OE X W o mo) (ha : OE X W a ma) (hbase : attributeBase o "join" X.env (eval o X.env) = eval o X.env := by rfl) (hs : starEach [a] X.env = (false, eval a X.env) :: starEach [] X.env := by rfl) (hline : (apos.endLine == pos.line) = true := by rfl)
    (hfew : ((backTo pos (starEach [a] X.env)).all (fun x => !x.1) && (backToKw pos (keywordEach [] X.env)).all (fun x => x.1.isSome) && decide (([a] : List Expr).length + ([] : List Keyword).length + (if ([] : List Keyword).isEmpty then 0 else 1) < 30)) = true := by rfl) :
    OE X W (.Call (.Attribute o "join" apos) [a] [] pos) (eMthT "str" pJoin mo (aCons ma aNil)) := oe_bm PySem.F.plainAttrs_str PySem.F.slot_str_join PySem.F.type_str_join mt_join ok_join ho (oa_cons ha oa_nil hs) hbase hfew hline hs rfl
theorem oe_split (ho : OE X W o mo) (ha : OE X W a ma) (hbase : attributeBase o "split" X.env (eval o X.env) = eval o X.env := by rfl) (hs : starEach [a] X.env = (false, eval a X.env) :: starEach [] X.env := by rfl) (hline : (apos.endLine == pos.line) = true := by rfl)
    (hfew : ((backTo pos (starEach [a] X.env)).all (fun x => !x.1) && (backToKw pos (keywordEach [] X.env)).all (fun x => x.1.isSome) && decide (([a] : List Expr).length + ([] : List Keyword).length + (if ([] : List Keyword).isEmpty then 0 else 1) < 30)) = true := by rfl) :
    OE X W (.Call (.Attribute o "split" apos) [a] [] pos) (eMthT "str" pSplit mo (aCons ma aNil)) := oe_bm PySem.F.plainAttrs_str PySem.F.slot_str_split PySem.F.type_str_split mt_split ok_split ho (oa_cons ha oa_nil hs) hbase hfew hline hs rfl
theorem oe_partition (ho : OE X W o mo) (ha : OE X W a ma) (hbase : attributeBase o "partition" X.env (eval o X.env) = eval o X.env := by rfl) (hs : starEach [a] X.env = (false, eval a X.env) :: starEach [] X.env := by rfl) (hline : (apos.endLine == pos.line) = true := by rfl)
    (hfew : ((backTo pos (starEach [a] X.env)).all (fun x => !x.1) && (backToKw pos (keywordEach [] X.env)).all (fun x => x.1.isSome) && decide (([a] : List Expr).length + ([] : List Keyword).length + (if ([] : List Keyword).isEmpty then 0 else 1) < 30)) = true := by rfl) :
    OE X W (.Call (.Attribute o "partition" apos) [a] [] pos) (eMthT "str" pPartition mo (aCons ma aNil)) := oe_bm PySem.F.plainAttrs_str PySem.F.slot_str_partition PySem.F.type_str_partition mt_partition ok_partition ho (oa_cons ha oa_nil hs) hbase hfew hline hs rfl
def pBits : P → Option P
  | .int i => some (.int (Builtin.Int.intBits i : Nat))
  | _ => none
theorem oe_bits (ho : OE X W o mo) (hbase : attributeBase o "bit_length" X.env (eval o X.env) = eval o X.env := by rfl) (hline : (apos.endLine == pos.line) = true := by rfl) : OE X W (.Call (.Attribute o "bit_length" apos) [] [] pos) (eUn pBits mo) := by
  obtain ⟨t, p, ho⟩ := ho
  refine ⟨_, pe_bits p hbase hline, fun ρ S io F σ H Q st en h => ?_⟩
  refine ho ρ S io F σ H _ st en (RG.bind h fun d S1 io1 F1 H1 v e1 n1 s1 r1 h1 => ?_)
  refine s1.op1 (r := fun x H1 Q => ∃ i, x = .int i ∧ Q (.int (Builtin.Int.intBits i : Nat)) H1) (fun io F S H x v z Q st rx e k => ?_) r1 h1
  cases x with
  | int i =>
    cases e
    exact ⟨i, rx, k F H _ Nxt.refl st rfl⟩
  | _ => cases e
def inP (y : P) (xs : List P) : Bool := xs.any fun x => x.eqv y
def occB (x s : List Nat) : Bool := !(Builtin.Str.occurrences (strOf s) (strOf x) 0 (strOf s).length 1).isEmpty
def pIn : P → P → Option P
  | y, .lst xs => if flatP y && xs.all flatP then some (.bl (inP y xs)) else none
  | y, .tup xs => if flatP y && xs.all flatP then some (.bl (inP y xs)) else none
  | .str x, .str s => some (.bl (occB x s))
  | _, _ => none
def pNotIn (x y : P) : Option P := match pIn x y with
  | some (.bl b) => some (.bl (!b))
  | _ => none
theorem inP_ok {K : PySem.W.Frag} {F : Hp} {y : P} {w : V} (hy : flatP y = true) (ry : Rep K F y w) : ∀ {xs : List P} {vs : List V}, xs.all flatP = true → RepL K F xs vs → inV w vs = inP y xs
  | [], vs, _, r => by
    have r : _ = _ := r
    subst r
    rfl
  | x :: xs, vs, h, ⟨v, u, e1, h1, h2⟩ => by
    subst e1
    rw [List.all_cons, Bool.and_eq_true] at h
    show (eqV v w || inV w u) = (x.eqv y || inP y xs)
    rw [flat_eqv h.1 hy h1 ry, inP_ok hy ry h.2 h2]
theorem flatR {K : PySem.W.Frag} {F H : Hp} {y : P} {w : V} (hy : flatP y = true) (r : RepR K F H y w) : Rep K F y w := by
  cases y <;> first | exact r | cases hy
theorem ok_in {K : PySem.W.Frag} : BinOk K (fun x y H Q => rIn K false x y H Q ∨ ∃ i j, x = .str i ∧ y = .str j ∧ Q (.bl (!(Builtin.Str.occurrences j i 0 j.length 1).isEmpty)) H) pIn := by
  intro io F S H x y v w z Q st rx ry e k
  cases y with
  | lst xs =>
    have e : (if flatP x && xs.all flatP then some (P.bl (inP x xs)) else none) = some z := by
      cases x <;> exact e
    split at e
    · rename_i hf
      rw [Bool.and_eq_true] at hf
      cases e
      obtain ⟨a, vs, rfl, ha, ra⟩ := ry
      have rx := flatR hf.1 rx
      refine .inl ⟨a, vs, rfl, .inl (SqL.of ha), flat_rep hf.1 rx, flats_rep hf.2 ra, ?_⟩
      rw [if_neg Bool.false_ne_true, inP_ok hf.1 rx hf.2 ra]
      exact k F H _ Nxt.refl st rfl
    · cases e
  | tup xs =>
    have e : (if flatP x && xs.all flatP then some (P.bl (inP x xs)) else none) = some z := by
      cases x <;> exact e
    split at e
    · rename_i hf
      rw [Bool.and_eq_true] at hf
      cases e
      obtain ⟨a, vs, rfl, ha, ra⟩ := ry
      have rx := flatR hf.1 rx
      refine .inl ⟨a, vs, rfl, .inr (sqt_mono st.sub ha), flat_rep hf.1 rx, flats_rep hf.2 ra, ?_⟩
      rw [if_neg Bool.false_ne_true, inP_ok hf.1 rx hf.2 ra]
      exact k F H _ Nxt.refl st rfl
    · cases e
  | str s =>
    cases x with
    | str x =>
      have rx : _ = _ := rx
      have ry : _ = _ := ry
      subst rx; subst ry
      cases e
      exact .inr ⟨_, _, rfl, rfl, k F H _ Nxt.refl st rfl⟩
    | _ => cases e
  | _ => cases x <;> cases e
theorem ok_notIn {K : PySem.W.Frag} : BinOk K (fun x y H Q => rIn K true x y H Q ∨ ∃ i j, x = .str i ∧ y = .str j ∧ Q (.bl (!(!(Builtin.Str.occurrences j i 0 j.length 1).isEmpty))) H) pNotIn := by
  intro io F S H x y v w z Q st rx ry e k
  unfold pNotIn at e
  cases y with
  | lst xs =>
    have e : (match (if flatP x && xs.all flatP then some (P.bl (inP x xs)) else none) with
      | some (.bl b) => some (P.bl (!b))
      | _ => none) = some z := by
      cases x <;> exact e
    by_cases hf : (flatP x && xs.all flatP) = true
    · rw [if_pos hf] at e
      rw [Bool.and_eq_true] at hf
      cases e
      obtain ⟨a, vs, rfl, ha, ra⟩ := ry
      have rx := flatR hf.1 rx
      refine .inl ⟨a, vs, rfl, .inl (SqL.of ha), flat_rep hf.1 rx, flats_rep hf.2 ra, ?_⟩
      rw [if_pos rfl, inP_ok hf.1 rx hf.2 ra]
      exact k F H _ Nxt.refl st rfl
    · rw [if_neg hf] at e
      cases e
  | tup xs =>
    have e : (match (if flatP x && xs.all flatP then some (P.bl (inP x xs)) else none) with
      | some (.bl b) => some (P.bl (!b))
      | _ => none) = some z := by
      cases x <;> exact e
    by_cases hf : (flatP x && xs.all flatP) = true
    · rw [if_pos hf] at e
      rw [Bool.and_eq_true] at hf
      cases e
      obtain ⟨a, vs, rfl, ha, ra⟩ := ry
      have rx := flatR hf.1 rx
      refine .inl ⟨a, vs, rfl, .inr (sqt_mono st.sub ha), flat_rep hf.1 rx, flats_rep hf.2 ra, ?_⟩
      rw [if_pos rfl, inP_ok hf.1 rx hf.2 ra]
      exact k F H _ Nxt.refl st rfl
    · rw [if_neg hf] at e
      cases e
  | str s =>
    cases x with
    | str x =>
      have rx : _ = _ := rx
      have ry : _ = _ := ry
      subst rx; subst ry
      cases e
      exact .inr ⟨_, _, rfl, rfl, k F H _ Nxt.refl st rfl⟩
    | _ => cases e
  | _ => cases x <;> cases e
def pMul : P → P → Option P
  | .int i, .int j => if bMul i j then some (.int (i * j)) else none
  | .lst xs, .int j => if 0 ≤ j ∧ j ≤ 1000 ∧ xs.length ≤ 1000 then some (.lst (List.replicate j.toNat xs).flatten) else none
  | _, _ => none
theorem repL_flat {K : PySem.W.Frag} {F : Hp} {xs : List P} {vs : List V} (r : RepL K F xs vs) : ∀ n, RepL K F (List.replicate n xs).flatten (List.replicate n vs).flatten
  | 0 => .nil
  | n + 1 => by
    rw [List.replicate_succ, List.replicate_succ, List.flatten_cons, List.flatten_cons]
    exact r.append (repL_flat r n)
theorem ok_mul {K : PySem.W.Frag} : BinOk K (fun x y H Q => (rI CMul fun i j => .int (i * j)) x y H Q ∨ rRep x y H Q) pMul := by
  intro io F S H x y v w z Q st rx ry e k
  cases y with
  | int j =>
    have ry : _ = _ := ry
    subst ry
    cases x with
    | int i =>
      have rx : _ = _ := rx
      subst rx
      have e : (if bMul i j then some (P.int (i * j)) else none) = some z := e
      split at e
      · rename_i hb
        cases e
        exact .inl ⟨i, j, rfl, rfl, bMul_ok i j hb, k F H _ Nxt.refl st rfl⟩
      · cases e
    | lst xs =>
      obtain ⟨a, vs, rfl, ha, ra⟩ := rx
      have e : (if 0 ≤ j ∧ j ≤ 1000 ∧ xs.length ≤ 1000 then some (P.lst (List.replicate j.toNat xs).flatten) else none) = some z := e
      split at e
      · rename_i hb
        cases e
        obtain ⟨h0, h1, h2⟩ := hb
        have hz : vs.length * j.toNat ≤ sizeLine := by
          rw [ra.length]
          have : j.toNat ≤ 1000 := by omega
          exact Nat.le_trans (Nat.mul_le_mul h2 this) (by decide)
        refine .inr ⟨a, j, vs, rfl, rfl, ha, by omega, by omega, hz, fun p hp => ?_⟩
        obtain ⟨s3, n3⟩ := st.froze (o := .lst (List.replicate j.toNat vs).flatten) hp
        exact k _ _ _ n3 s3 ⟨p, _, rfl, upd_same, RepL.mono n3.fr (repL_flat ra _)⟩
      · cases e
    | _ => cases e
  | _ => cases x <;> cases e
theorem oe_mul (ha : OE X W a ma) (hb : OE X W b mb) : OE X W (.BinOp a .Mult b pos) (eBin pMul ma mb) := oe_bin (OpR.or op_mul op_rep) ok_mul ha hb
end
end Mir

namespace Mir
open PySem L2
def tE (K : PySem.W.Frag) (W : WX) (m : ME) : TE := fun σ H Q => ∃ ρ S io F, Sta K io F S H ∧ Mir.Env K io F ρ σ ∧ RG K (RepA K) (m ρ S) io F H Q (fun c d H' => W c d σ H')
def tT (K : PySem.W.Frag) (W : WX) (m : MT) : TT := fun σ H Q => ∃ ρ S io F, Sta K io F S H ∧ Mir.Env K io F ρ σ ∧ RG K RepB (m ρ S) io F H Q (fun c d H' => W c d σ H')
section
variable {X : Cx} {W : WX}
theorem OE.pe {e : Expr} {m : ME} (h : OE X W e m) : PE X e (tE X.K W m) := by
  obtain ⟨t, p, h⟩ := h
  exact ⟨fun pins s σ H Q I ⟨ρ, S, io, F, st, en, q⟩ => p.run pins s σ H Q I (h ρ S io F σ H Q st en q)⟩
theorem OT.pt {e : Expr} {m : MT} (h : OT X W e m) : PT X e (tT X.K W m) := by
  obtain ⟨t, p, h⟩ := h
  exact ⟨fun pins s σ H Q I ⟨ρ, S, io, F, st, en, q⟩ => p.run pins s σ H Q I (h ρ S io F σ H Q st en q)⟩
end
abbrev MG := Vl → En → Sto → Res En
def Agree (js : List Nat) (σ σ' : St) : Prop := σ'.length = σ.length ∧ ∀ j : Nat, j ∉ js → σ'[j]? = σ[j]?
def RepEn (K : PySem.W.Frag) (js : List Nat) (σ : St) : Io → Hp → En → St → Prop := fun io F ρ σ' => Mir.Env K io F ρ σ' ∧ Agree js σ σ'
def OG (X : Cx) (W : WX) (tg : Expr) (js : List Nat) (m : MG) : Prop := ∃ t, PG X tg t ∧ ∀ (d : Vl) (v : V) (ρ : En) (S : Sto) (io : Io) (F : Hp) (σ : St) (H : Hp) (Q : St → Hp → Prop), Sta X.K io F S H → Mir.Env X.K io F ρ σ → RepV X.K io F d v →
  RG X.K (RepEn X.K js σ) (m d ρ S) io F H Q (fun c d H' => W c d σ H') → t v σ H Q
def tG (K : PySem.W.Frag) (W : WX) (js : List Nat) (m : MG) : TG := fun v σ H Q => ∃ d ρ S io F, Sta K io F S H ∧ Mir.Env K io F ρ σ ∧ RepV K io F d v ∧ RG K (RepEn K js σ) (m d ρ S) io F H Q (fun c d H' => W c d σ H')
theorem OG.pg {X : Cx} {W : WX} {tg : Expr} {js : List Nat} {m : MG} (h : OG X W tg js m) : PG X tg (tG X.K W js m) := by
  obtain ⟨t, p, h⟩ := h
  exact ⟨fun pins s σ H v u Q I r ⟨d, ρ, S, io, F, st, en, rv, q⟩ => p.run pins s σ H v u Q I r (h d v ρ S io F σ H Q st en rv q)⟩
def gNm (i : Nat) : MG := fun d ρ S => .ok (ρ.set i (some d)) S
theorem agree_refl {js : List Nat} {σ : St} : Agree js σ σ := ⟨rfl, fun _ _ => rfl⟩
theorem agree_set {i : Nat} {σ : St} {o : Option V} : Agree [i] σ (σ.set i o) := ⟨by rw [List.length_set], fun j hj => by
  rw [List.getElem?_set_ne]
  intro e
  exact hj (by rw [e]; exact List.mem_singleton.mpr rfl)⟩
theorem agree_trans {is js : List Nat} {a b c : St} (h : Agree is a b) (h' : Agree js b c) : Agree (is ++ js) a c := ⟨h'.1.trans h.1, fun j hj => by
  rw [List.mem_append, not_or] at hj
  rw [h'.2 j hj.2, h.2 j hj.1]⟩
theorem wipe_get : ∀ (τ : St) (vs : List Nat) (j : Nat), (L2.wipe τ vs)[j]? = if j ∈ vs then (τ[j]?).map (fun _ => none) else τ[j]? := by
  intro τ vs
  induction vs with
  | nil => intro j; simp [L2.wipe]
  | cons v vs ih =>
    intro j
    unfold L2.wipe
    by_cases hj : v = j
    · subst hj
      rw [if_pos List.mem_cons_self]
      by_cases hl : v < (L2.wipe τ vs).length
      · rw [List.getElem?_set_self hl]
        rw [wipe_length] at hl
        rw [List.getElem?_eq_getElem hl]
        rfl
      · rw [List.getElem?_eq_none (by rw [List.length_set]; omega)]
        rw [wipe_length] at hl
        rw [List.getElem?_eq_none (by omega)]
        rfl
    · rw [List.getElem?_set_ne hj, ih j]
      have : (j ∈ v :: vs) ↔ j ∈ vs := by
        constructor
        · intro h
          rcases List.mem_cons.mp h with e | h
          · exact absurd e.symm hj
          · exact h
        · exact List.mem_cons_of_mem _
      simp only [this]
theorem wipe_agree {js vs : List Nat} {σ σ' : St} (h : Agree js σ σ') (hs : ∀ j ∈ js, j ∈ vs) : L2.wipe σ' vs = L2.wipe σ vs := by
  apply List.ext_getElem?
  intro j
  rw [wipe_get, wipe_get]
  by_cases hj : j ∈ vs
  · rw [if_pos hj, if_pos hj]
    by_cases hl : j < σ.length
    · rw [List.getElem?_eq_getElem hl, List.getElem?_eq_getElem (by rw [h.1]; exact hl)]
      rfl
    · rw [List.getElem?_eq_none (by rw [h.1]; omega), List.getElem?_eq_none (by omega)]
  · rw [if_neg hj, if_neg hj]
    exact h.2 j fun z => hj (hs j z)
section
variable {X : Cx} {W : WX} {pos : Pos}
theorem og_name {i : Nat} {x : Str} (hN : X.N.Nodup) (hi : X.N[i]? = some x := by rfl) (hx : Loc X.env.scope x := by first | exact Or.inl rfl | exact Or.inr rfl) (hf : X.fn x = true ∨ X.env.scope.names.lookup x = some .local := by first | exact .inl rfl | exact .inr rfl) : OG X W (.Name x pos) [i] (gNm i) := by
  refine ⟨_, pg_name hN hi hx hf, fun d v ρ S io F σ H Q st en rv h => ?_⟩
  exact h io F H (σ.set i (some v)) Nxt.refl st ⟨en.set rv i, agree_set⟩
abbrev MGs := List Vl → En → Sto → Res En
def OGs (X : Cx) (W : WX) (ts : List Expr) (js : List Nat) (m : MGs) : Prop := ∃ t, PGs X ts t ∧ ∀ (ds : List Vl) (vs : List V) (ρ : En) (S : Sto) (io : Io) (F : Hp) (σ : St) (H : Hp) (Q : St → Hp → Prop), Sta X.K io F S H → Mir.Env X.K io F ρ σ → RepVs X.K io F ds vs →
  RG X.K (RepEn X.K js σ) (m ds ρ S) io F H Q (fun c d H' => W c d σ H') → t vs σ H Q
def gNl : MGs := fun ds ρ S => match ds with
  | [] => .ok ρ S
  | _ => .bad
def Res.nox {A : Type} (r : Res A) : Res A := match r with
  | .ok a S => .ok a S
  | _ => .bad
theorem RG.nox {K : PySem.W.Frag} {A B C D : Type} {R : Io → Hp → A → B → Prop} {R' : Io → Hp → C → D → Prop} {Q : D → Hp → Prop} {Q1 : B → Hp → Prop} {E E1 : XK} {io : Io} {F H : Hp} {r : Res A} {f : A → Sto → Res C} (h : RG K R' (r.nox.bind f) io F H Q E)
    (k : ∀ a S1 io1 F1 H1 v, r = .ok a S1 → Nxt io F H io1 F1 H1 → Sta K io1 F1 S1 H1 → R io1 F1 a v → RG K R' (f a S1) io1 F1 H1 Q E → Q1 v H1) : RG K R r io F H Q1 E1 := by
  cases r with
  | ok a S => exact fun io' F' H' v n s rp => k a S io' F' H' v rfl n s rp (RG.step n h)
  | exc c x S => exact h.elim
  | bad => exact h
def gCn (g : MG) (r : MGs) : MGs := fun ds ρ S => match ds with
  | d :: ds => (g d ρ S).nox.bind fun ρ1 S1 => r ds ρ1 S1
  | [] => .bad
theorem ogs_nil : OGs X W [] [] gNl := by
  refine ⟨_, pgs_nil, fun ds vs ρ S io F σ H Q st en rv h => ?_⟩
  cases ds with
  | nil =>
    have rv : _ = _ := rv
    subst rv
    exact ⟨rfl, h io F H σ Nxt.refl st ⟨en, agree_refl⟩⟩
  | cons d ds => exact h.elim
theorem RG.imp {K : PySem.W.Frag} {A B : Type} {R R1 : Io → Hp → A → B → Prop} {Q : B → Hp → Prop} {E : XK} {io : Io} {F H : Hp} {r : Res A} (hr : ∀ io F a b, R1 io F a b → R io F a b) (h : RG K R r io F H Q E) : RG K R1 r io F H Q E := by
  cases r with
  | ok a S => exact fun io' F' H' v n s rp => h io' F' H' v n s (hr _ _ _ _ rp)
  | exc c x S => exact h
  | bad => exact h
theorem RG.wish {K : PySem.W.Frag} {A B : Type} {R : Io → Hp → A → B → Prop} {Q : B → Hp → Prop} {E E1 : XK} {io : Io} {F H : Hp} {r : Res A} (hr : ∀ c d H, E c d H → E1 c d H) (h : RG K R r io F H Q E) : RG K R r io F H Q E1 := by
  cases r with
  | ok a S => exact h
  | exc c x S => exact fun io' F' H' d n s rp => hr _ _ _ (h io' F' H' d n s rp)
  | bad => exact h
theorem ogs_cons {e : Expr} {es : List Expr} {js ks : List Nat} {g : MG} {r : MGs} (h1 : OG X (fun _ _ _ _ => False) e js g) (h2 : OGs X (fun _ _ _ _ => False) es ks r) (hs : (assignEach (e :: es) X.env).map (·.2) = assign e X.env :: (assignEach es X.env).map (·.2) := by rfl) : OGs X (fun _ _ _ _ => False) (e :: es) (js ++ ks) (gCn g r) := by
  obtain ⟨t, p, h1⟩ := h1
  obtain ⟨u, q, h2⟩ := h2
  refine ⟨_, pgs_cons p q hs, fun ds vs ρ S io F σ H Q st en rv h => ?_⟩
  cases ds with
  | nil => exact h.elim
  | cons d ds =>
    obtain ⟨v, w, e1, r1, r2⟩ := rv
    subst e1
    refine ⟨v, w, rfl, ?_⟩
    refine h1 d v ρ S io F σ H _ st en r1 (RG.nox h fun ρ1 S1 io1 F1 H1 σ1 e1 n1 s1 rr h3 => ?_)
    refine h2 ds w ρ1 S1 io1 F1 σ1 H1 Q s1 rr.1 (r2.mono n1.han n1.fr) (RG.imp ?_ h3)
    rintro io F ρ2 σ2 ⟨a, b⟩
    exact ⟨a, agree_trans rr.2 b⟩
def gTp (n : Nat) (r : MGs) : MG := fun d ρ S => match d with
  | .p (.tup xs) => if xs.length = n then r (xs.map Vl.p) ρ S else .bad
  | _ => .bad
theorem og_tup {es : List Expr} {k n : Nat} {js : List Nat} {r : MGs} (hc : X.calm = true) (h : OGs X W es js r) (hn : (assignEach es X.env).length = n := by rfl) (hst : (assignEach es X.env).findIdx? (·.1) = none := by rfl) : OG X W (.Tuple es k pos) js (gTp n r) := by
  obtain ⟨t, p, h⟩ := h
  refine ⟨_, pg_tup hc p hn hst, fun d v ρ S io F σ H Q st en rv hw => ?_⟩
  cases d with
  | c k => exact hw.elim
  | p x =>
    cases x with
    | tup xs =>
      obtain ⟨a, vs, rfl, ha, ra⟩ := rv
      have hw : RG X.K (RepEn X.K js σ) (if xs.length = n then r (xs.map Vl.p) ρ S else .bad) io F H Q (fun c d H' => W c d σ H') := hw
      by_cases hl : xs.length = n
      · rw [if_pos hl] at hw
        exact ⟨a, vs, rfl, sqt_mono st.sub ha, by rw [ra.length]; exact hl, h _ vs ρ S io F σ H Q st en (RepVs.pure.mpr ra) hw⟩
      · rw [if_neg hl] at hw
        exact hw.elim
    | _ => exact hw.elim
end
def IterOk (K : PySem.W.Frag) (F : Hp) (xs : List P) (J : It) : Prop := ∀ (io' : Io) (F' : Hp) (S' : Sto) (H' : Hp) (i : Nat), Same F F' → Sta K io' F' S' H' →
  (∀ x, xs[i]? = some x → J.go i H' ∧ ∀ v H'', J.yld i H' v H'' → ∃ F'', Nxt io' F' H' io' F'' H'' ∧ Sta K io' F'' S' H'' ∧ Rep K F'' x v) ∧ (xs[i]? = none → J.stop i H')
def RepJ (K : PySem.W.Frag) : Io → Hp → List P → It → Prop := fun _ F xs J => IterOk K F xs J
abbrev MI := En → Sto → Res (List P)
def OI (X : Cx) (W : WX) (tg iter : Expr) (m : MI) : Prop := ∃ t, PI X tg iter t ∧ ∀ (ρ : En) (S : Sto) (io : Io) (F : Hp) (σ : St) (H : Hp) (R : It → Hp → Prop), Sta X.K io F S H → Mir.Env X.K io F ρ σ →
  RG X.K (RepJ X.K) (m ρ S) io F H R (fun c d H' => W c d σ H') → t σ H R
theorem PI.or {X : Cx} {tg iter : Expr} {a b : TI} (h : PI X tg iter a) (h' : PI X tg iter b) : PI X tg iter (fun σ H R => a σ H R ∨ b σ H R) := ⟨fun pins s σ H R I q => by
  rcases q with q | q
  · exact h.run pins s σ H R I q
  · exact h'.run pins s σ H R I q⟩
def itemsP : P → Option (List P)
  | .lst xs => some xs
  | .tup xs => some xs
  | .scr xs => some xs
  | .str x => some (x.map fun c => .str [c])
  | _ => none
def itOf (m : ME) : MI := fun ρ S => (m ρ S).bind fun d S1 => (frz d S1).bind fun x S2 => match itemsP x with
  | some xs => .ok xs S2
  | none => .bad
section
variable {K : PySem.W.Frag} {F : Hp}
theorem iter_list {a : Addr} {xs : List P} {vs : List V} (h : SqL K F a vs) (r : RepL K F xs vs) : IterOk K F xs (Itl K a) := by
  intro io' F' S' H' i hF st
  have hs : SqL K H' a vs := sql_mono (hF.trans st.sub) h
  refine ⟨fun x hx => ?_, fun hx => ?_⟩
  · obtain ⟨v, hv, hr⟩ := r.get hx
    refine ⟨⟨vs, v, hs, hv⟩, fun w H'' y => ?_⟩
    obtain ⟨e, y⟩ := y
    subst e
    have := y vs hs
    rw [hv] at this
    cases this
    exact ⟨F', Nxt.refl, st, Rep.mono hF hr⟩
  · refine ⟨vs, hs, ?_⟩
    rw [r.length]
    exact List.getElem?_eq_none_iff.mp hx
theorem iter_tup {a : Addr} {xs : List P} {vs : List V} (h : SqT K F a vs) (r : RepL K F xs vs) : IterOk K F xs (Itt K a) := by
  intro io' F' S' H' i hF st
  have hs : SqT K H' a vs := sqt_mono (hF.trans st.sub) h
  refine ⟨fun x hx => ?_, fun hx => ?_⟩
  · obtain ⟨v, hv, hr⟩ := r.get hx
    refine ⟨⟨vs, v, hs, hv⟩, fun w H'' y => ?_⟩
    obtain ⟨e, y⟩ := y
    subst e
    have := y vs hs
    rw [hv] at this
    cases this
    exact ⟨F', Nxt.refl, st, Rep.mono hF hr⟩
  · refine ⟨vs, hs, ?_⟩
    rw [r.length]
    exact List.getElem?_eq_none_iff.mp hx
theorem iter_str {x : List Nat} : IterOk K F (x.map fun c => P.str [c]) (Its (strOf x)) := by
  intro io' F' S' H' i hF st
  refine ⟨fun y hy => ?_, fun hy => ?_⟩
  · rw [List.getElem?_map] at hy
    cases hc : x[i]? with
    | none => rw [hc] at hy; cases hy
    | some c =>
      rw [hc] at hy
      have hy : P.str [c] = y := Option.some.inj hy
      subst hy
      have hi : i < x.length := (List.getElem?_eq_some_iff.mp hc).1
      refine ⟨by show i < x.toArray.size; simpa using hi, fun v H'' yl => ?_⟩
      obtain ⟨e, c', hc', hv⟩ := yl
      subst e
      have : x[i]? = some c' := by
        have hc'' : x.toArray[i]? = some c' := hc'
        simpa using hc''
      rw [hc] at this
      cases this
      exact ⟨F', Nxt.refl, st, hv⟩
  · rw [List.getElem?_map] at hy
    show x.toArray.size ≤ i
    cases hc : x[i]? with
    | none =>
      have := List.getElem?_eq_none_iff.mp hc
      simpa using this
    | some c => rw [hc] at hy; cases hy
end
section
variable {X : Cx} {W : WX} {a b e : Expr} {ma mb : ME} {pos p tpos : Pos} {tg : Expr}
theorem oi_of (h : OE X W e ma) : OI X W tg e (itOf ma) := by
  obtain ⟨t, pe, h⟩ := h
  refine ⟨_, PI.or (PI.or (pi_list pe) (pi_tup pe)) (pi_str pe), fun ρ S io F σ H R st en hw => ?_⟩
  cases e1 : ma ρ S with
  | bad => unfold itOf at hw; rw [e1] at hw; exact hw.elim
  | exc c x S1 =>
    refine .inl (.inl (h ρ S io F σ H _ st en ?_))
    unfold itOf at hw
    rw [e1] at hw ⊢
    exact hw
  | ok d S1 =>
    have hw : RG X.K (RepJ X.K) ((frz d S1).bind fun x S2 => match itemsP x with
      | some xs => .ok xs S2
      | none => .bad) io F H R (fun c d H' => W c d σ H') := by
      unfold itOf at hw
      rw [e1] at hw
      exact hw
    have go : ∀ (Q : VK), (∀ io1 F1 H1 v, Nxt io F H io1 F1 H1 → Sta X.K io1 F1 S1 H1 → RepV X.K io1 F1 d v → Q v H1) → t σ H Q := fun Q q => h ρ S io F σ H Q st en (by rw [e1]; exact q)
    cases e2 : frz d S1 with
    | bad => rw [e2] at hw; exact hw.elim
    | exc c x S2 =>
      exact absurd e2 (frz_nox _ _ _ _ _)
    | ok x S2 =>
      cases x with
      | lst xs =>
        refine .inl (.inl (go _ fun io1 F1 H1 v n1 s1 r1 => ?_))
        obtain ⟨x', S2', F2, n2, s2, rp, hz, h2⟩ := s1.frz r1 (RG.step n1 hw)
        rw [e2] at hz; cases hz
        obtain ⟨a, vs, rfl, ha, ra⟩ := rp
        exact ⟨a, rfl, ⟨vs, SqL.of (s2.sub _ _ ha)⟩, h2 io1 F2 H1 (Itl X.K a) Nxt.refl s2 (iter_list (SqL.of ha) ra)⟩
      | scr xs =>
        refine .inl (.inl (go _ fun io1 F1 H1 v n1 s1 r1 => ?_))
        obtain ⟨x', S2', F2, n2, s2, rp, hz, h2⟩ := s1.frz r1 (RG.step n1 hw)
        rw [e2] at hz; cases hz
        obtain ⟨a, vs, rfl, ha, ra⟩ := rp
        exact ⟨a, rfl, ⟨vs, sql_mono s2.sub ha⟩, h2 io1 F2 H1 (Itl X.K a) Nxt.refl s2 (iter_list ha ra)⟩
      | tup xs =>
        refine .inl (.inr (go _ fun io1 F1 H1 v n1 s1 r1 => ?_))
        obtain ⟨x', S2', F2, n2, s2, rp, hz, h2⟩ := s1.frz r1 (RG.step n1 hw)
        rw [e2] at hz; cases hz
        obtain ⟨a, vs, rfl, ha, ra⟩ := rp
        exact ⟨a, rfl, ⟨vs, sqt_mono s2.sub ha⟩, h2 io1 F2 H1 (Itt X.K a) Nxt.refl s2 (iter_tup ha ra)⟩
      | str xs =>
        refine .inr (go _ fun io1 F1 H1 v n1 s1 r1 => ?_)
        obtain ⟨x', S2', F2, n2, s2, rp, hz, h2⟩ := s1.frz r1 (RG.step n1 hw)
        rw [e2] at hz; cases hz
        have rp : v = .str (strOf xs) := rp
        subst rp
        exact ⟨strOf xs, rfl, h2 io1 F2 H1 (Its (strOf xs)) Nxt.refl s2 iter_str⟩
      | _ => rw [e2] at hw; exact hw.elim
def rangeP (lo : Int) (n : Nat) : List P := (List.range n).map fun (k : Nat) => P.int (lo + (k : Int))
def itRange1 (m : ME) : MI := fun ρ S => (m ρ S).bind fun d S1 => match d with
  | .p (.int j) => if j < 2 ^ 62 ∧ -(2 ^ 62) ≤ j then .ok (rangeP 0 j.toNat) S1 else .bad
  | _ => .bad
def itRange2 (m m2 : ME) : MI := fun ρ S => (m ρ S).bind fun d S1 => (m2 ρ S1).bind fun d2 S2 => match d, d2 with
  | .p (.int i), .p (.int j) => if (-(2 ^ 62) ≤ i ∧ i < 2 ^ 62) ∧ (-(2 ^ 62) ≤ j ∧ j < 2 ^ 62) then .ok (rangeP i (j - i).toNat) S2 else .bad
  | _, _ => .bad
theorem iter_range {K : PySem.W.Frag} {F : Hp} {lo : Int} {n : Nat} : IterOk K F (rangeP lo n) (Itr lo n) := by
  intro io' F' S' H' i hF st
  have hl : (rangeP lo n)[i]? = if i < n then some (P.int (lo + (i : Int))) else none := by
    unfold rangeP
    rw [List.getElem?_map]
    by_cases hi : i < n
    · rw [if_pos hi, List.getElem?_range hi]; rfl
    · rw [if_neg hi, List.getElem?_eq_none (by simpa using hi)]; rfl
  refine ⟨fun x hx => ?_, fun hx => ?_⟩
  · rw [hl] at hx
    by_cases hi : i < n
    · rw [if_pos hi] at hx
      cases hx
      refine ⟨hi, fun v H'' y => ?_⟩
      obtain ⟨e, hv⟩ := y
      subst e
      exact ⟨F', Nxt.refl, st, hv⟩
    · rw [if_neg hi] at hx; cases hx
  · rw [hl] at hx
    by_cases hi : i < n
    · rw [if_pos hi] at hx; cases hx
    · exact Nat.le_of_not_lt hi
theorem oi_range1 (hm : X.mg "range" = none) (h : OE X W a ma) (hg : Gl X "range" := by rfl) (hs : starEach [a] X.env = (false, eval a X.env) :: starEach [] X.env := by rfl) : OI X W tg (.Call (.Name "range" p) [a] [] pos) (itRange1 ma) := by
  obtain ⟨t, q, h⟩ := h
  refine ⟨_, pi_range1 hg hm (pa_cons q pa_nil hs) hs, fun ρ S io F σ H R st en hw => ?_⟩
  refine h ρ S io F σ H _ st en (RG.bind hw fun d S1 io1 F1 H1 v e1 n1 s1 r1 h1 => ?_)
  cases d with
  | c k => exact h1.elim
  | p x =>
    cases x with
    | int j =>
      have r1 : v = .int j := r1
      subst r1
      dsimp only at h1
      by_cases hb : j < 2 ^ 62 ∧ -(2 ^ 62) ≤ j
      · rw [if_pos hb] at h1
        exact ⟨j, rfl, hb.2, hb.1, h1 io1 F1 H1 _ Nxt.refl s1 iter_range⟩
      · rw [if_neg hb] at h1
        exact h1.elim
    | _ => exact h1.elim
theorem oi_range2 (hm : X.mg "range" = none) (h : OE X W a ma) (h' : OE X W b mb) (hg : Gl X "range" := by rfl) (hs : starEach [a, b] X.env = (false, eval a X.env) :: starEach [b] X.env := by rfl) (hs2 : starEach [b] X.env = (false, eval b X.env) :: starEach [] X.env := by rfl)
    (hs3 : starEach [a, b] X.env = [(false, eval a X.env), (false, eval b X.env)] := by rfl) : OI X W tg (.Call (.Name "range" p) [a, b] [] pos) (itRange2 ma mb) := by
  obtain ⟨t, q, h⟩ := h
  obtain ⟨t2, q2, h'⟩ := h'
  refine ⟨_, pi_range2 hg hm (pa_cons q (pa_cons q2 pa_nil hs2) hs) hs3 hs2, fun ρ S io F σ H R st en hw => ?_⟩
  refine h ρ S io F σ H _ st en (RG.bind hw fun d S1 io1 F1 H1 v e1 n1 s1 r1 h1 => ?_)
  refine h' ρ S1 io1 F1 σ H1 _ s1 (en.nxt n1) (RG.bind h1 fun d2 S2 io2 F2 H2 v2 e2 n2 s2 r2 h2 => ?_)
  cases d with
  | c k => exact h2.elim
  | p x =>
    cases x with
    | int i =>
      have r1 : v = .int i := r1
      subst r1
      cases d2 with
      | c k => exact h2.elim
      | p y =>
        cases y with
        | int j =>
          have r2 : v2 = .int j := r2
          subst r2
          dsimp only at h2
          by_cases hb : (-(2 ^ 62) ≤ i ∧ i < 2 ^ 62) ∧ (-(2 ^ 62) ≤ j ∧ j < 2 ^ 62)
          · rw [if_pos hb] at h2
            exact ⟨i, j, rfl, ⟨hb.1.1, hb.1.2, hb.2.1, hb.2.2⟩, h2 io2 F2 H2 _ Nxt.refl s2 iter_range⟩
          · rw [if_neg hb] at h2
            exact h2.elim
        | _ => exact h2.elim
    | _ => exact h2.elim
def enumP (n : Nat) : List P → List P
  | [] => []
  | x :: xs => .tup [.int n, x] :: enumP (n + 1) xs
theorem enumP_get : ∀ (xs : List P) (n i : Nat), (enumP n xs)[i]? = (xs[i]?).map fun x => P.tup [.int ((n + i : Nat) : Int), x]
  | [], n, i => by simp [enumP]
  | x :: xs, n, 0 => by simp [enumP]
  | x :: xs, n, i + 1 => by
    show (enumP (n + 1) xs)[i]? = _
    rw [enumP_get xs (n + 1) i]
    simp only [List.getElem?_cons_succ]
    congr 1
    funext x
    congr 2
    have : ((n + 1 + i : Nat) : Int) = ((n + (i + 1) : Nat) : Int) := by omega
    rw [this]
def itEnum (m : ME) : MI := fun ρ S => (m ρ S).bind fun d S1 => (frz d S1).bind fun x S2 => match x with
  | .lst xs => .ok (enumP 0 xs) S2
  | _ => .bad
theorem iter_enum {K : PySem.W.Frag} {F : Hp} {a : Addr} {xs : List P} {vs : List V} (h : SqL K F a vs) (r : RepL K F xs vs) : IterOk K F (enumP 0 xs) (Ite K a) := by
  intro io' F' S' H' i hF st
  have hs : SqL K H' a vs := sql_mono (hF.trans st.sub) h
  rw [enumP_get]
  refine ⟨fun x hx => ?_, fun hx => ?_⟩
  · cases q : xs[i]? with
    | none => rw [q] at hx; cases hx
    | some y =>
      rw [q] at hx
      have hx : P.tup [.int ((0 + i : Nat) : Int), y] = x := Option.some.inj hx
      subst hx
      obtain ⟨v, hv, hr⟩ := r.get q
      refine ⟨⟨vs, v, hs, hv⟩, fun w H'' yl => ?_⟩
      obtain ⟨T, u, rfl, hT, e, hu⟩ := yl
      subst e
      have := hu vs hs
      rw [hv] at this
      cases this
      obtain ⟨s3, n3⟩ := st.froze (o := .tup [.int (i : Nat), v]) hT
      refine ⟨_, n3, s3, T, _, rfl, SqT.of upd_same, .cons ?_ (.cons (Rep.mono n3.fr (Rep.mono hF hr)) .nil)⟩
      show V.int _ = V.int _
      rw [Nat.zero_add]
  · refine ⟨vs, hs, ?_⟩
    rw [r.length]
    cases q : xs[i]? with
    | none => exact List.getElem?_eq_none_iff.mp q
    | some y => rw [q] at hx; cases hx
theorem oi_enum {elts : List Expr} {kk : Nat} (hm : X.mg "enumerate" = none) (h : OE X W a ma) (hg : Gl X "enumerate" := by rfl) (hs : starEach [a] X.env = (false, eval a X.env) :: starEach [] X.env := by rfl) : OI X W (.Tuple elts kk tpos) (.Call (.Name "enumerate" p) [a] [] pos) (itEnum ma) := by
  obtain ⟨t, q, h⟩ := h
  refine ⟨_, pi_enum hg hm (pa_cons q pa_nil hs) hs, fun ρ S io F σ H R st en hw => ?_⟩
  refine h ρ S io F σ H _ st en (RG.bind hw fun d S1 io1 F1 H1 v e1 n1 s1 r1 h1 => ?_)
  obtain ⟨x, S2, F2, n2, s2, rp, hz, h2⟩ := s1.frz r1 h1
  cases x with
  | lst xs =>
    obtain ⟨a, vs, rfl, ha, ra⟩ := rp
    exact ⟨a, vs, rfl, SqL.of (s2.sub _ _ ha), h2 io1 F2 H1 _ Nxt.refl s2 (iter_enum (SqL.of ha) ra)⟩
  | _ => exact h2.elim
def zipP : List P → List P → List P
  | x :: xs, y :: ys => .tup [x, y] :: zipP xs ys
  | _, _ => []
theorem zipP_get : ∀ (xs ys : List P) (i : Nat), (zipP xs ys)[i]? = (xs[i]?).bind fun x => (ys[i]?).map fun y => P.tup [x, y]
  | [], ys, i => by simp [zipP]
  | x :: xs, [], i => by cases h : (x :: xs)[i]? <;> simp [zipP]
  | x :: xs, y :: ys, 0 => by simp [zipP]
  | x :: xs, y :: ys, i + 1 => by
    show (zipP xs ys)[i]? = _
    rw [zipP_get xs ys i]
    simp only [List.getElem?_cons_succ]
def itZip (m m2 : ME) : MI := fun ρ S => (m ρ S).bind fun d S1 => (m2 ρ S1).bind fun d2 S2 => match d, d2 with
  | .p (.lst xs), .p (.lst ys) => .ok (zipP xs ys) S2
  | _, _ => .bad
theorem iter_zip {K : PySem.W.Frag} {F : Hp} {a b : Addr} {xs ys : List P} {vs ws : List V} (h : SqL K F a vs) (r : RepL K F xs vs) (h' : SqL K F b ws) (r' : RepL K F ys ws) : IterOk K F (zipP xs ys) (Itz K a b) := by
  intro io' F' S' H' i hF st
  have hs : SqL K H' a vs := sql_mono (hF.trans st.sub) h
  have hs' : SqL K H' b ws := sql_mono (hF.trans st.sub) h'
  rw [zipP_get]
  refine ⟨fun x hx => ?_, fun hx => ?_⟩
  · cases q : xs[i]? with
    | none => rw [q] at hx; cases hx
    | some y =>
      cases q' : ys[i]? with
      | none => rw [q, q'] at hx; cases hx
      | some y' =>
        rw [q, q'] at hx
        have hx : P.tup [y, y'] = x := Option.some.inj hx
        subst hx
        obtain ⟨v, hv, hr⟩ := r.get q
        obtain ⟨v', hv', hr'⟩ := r'.get q'
        refine ⟨⟨vs, ws, v, v', hs, hs', hv, hv'⟩, fun w H'' yl => ?_⟩
        obtain ⟨T, u, u', rfl, hT, e, hu, hu'⟩ := yl
        subst e
        have := hu vs hs
        rw [hv] at this
        cases this
        have := hu' ws hs'
        rw [hv'] at this
        cases this
        obtain ⟨s3, n3⟩ := st.froze (o := .tup [v, v']) hT
        exact ⟨_, n3, s3, T, _, rfl, SqT.of upd_same, .cons (Rep.mono n3.fr (Rep.mono hF hr)) (.cons (Rep.mono n3.fr (Rep.mono hF hr')) .nil)⟩
  · refine ⟨vs, ws, hs, hs', ?_⟩
    rw [r.length, r'.length]
    cases q : xs[i]? with
    | none => exact .inl (List.getElem?_eq_none_iff.mp q)
    | some y =>
      cases q' : ys[i]? with
      | none => exact .inr (List.getElem?_eq_none_iff.mp q')
      | some y' => rw [q, q'] at hx; cases hx
theorem oi_zip {elts : List Expr} {kk : Nat} (hm : X.mg "zip" = none) (h : OE X W a ma) (h' : OE X W b mb) (hg : Gl X "zip" := by rfl) (hs : starEach [a, b] X.env = (false, eval a X.env) :: starEach [b] X.env := by rfl) (hs2 : starEach [b] X.env = (false, eval b X.env) :: starEach [] X.env := by rfl)
    (hpl : (backTo pos (starEach [b] X.env)).any (·.1) = false := by rfl) : OI X W (.Tuple elts kk tpos) (.Call (.Name "zip" p) [a, b] [] pos) (itZip ma mb) := by
  obtain ⟨t, q, h⟩ := h
  obtain ⟨t2, q2, h'⟩ := h'
  refine ⟨_, pi_zip hg hm (pa_cons q (pa_cons q2 pa_nil hs2) hs) hs hpl, fun ρ S io F σ H R st en hw => ?_⟩
  refine h ρ S io F σ H _ st en (RG.bind hw fun d S1 io1 F1 H1 v e1 n1 s1 r1 h1 => ?_)
  refine h' ρ S1 io1 F1 σ H1 _ s1 (en.nxt n1) (RG.bind h1 fun d2 S2 io2 F2 H2 v2 e2 n2 s2 r2 h2 => ?_)
  cases d with
  | c k => exact h2.elim
  | p x =>
    cases x with
    | lst xs =>
      obtain ⟨a, vs, rfl, ha, ra⟩ := r1
      cases d2 with
      | c k => exact h2.elim
      | p y =>
        cases y with
        | lst ys =>
          obtain ⟨b, ws, rfl, hb, rb⟩ := r2
          have ha2 := n2.fr _ _ ha
          exact ⟨a, b, vs, ws, rfl, SqL.of (s2.sub _ _ ha2), SqL.of (s2.sub _ _ hb), h2 io2 F2 H2 _ Nxt.refl s2 (iter_zip (SqL.of ha2) (RepL.mono n2.fr ra) (SqL.of hb) rb)⟩
        | _ => exact h2.elim
    | _ => exact h2.elim
end
end Mir

namespace Mir
open PySem L2
def sPass : MS := fun ρ S => .ok (.nx ρ) S
def sNever : MS := fun _ _ => .bad
def RF.thn (r : RF) (b : MS) : RF := match r with
  | .ok (.nx ρ) S => b ρ S
  | .ok (.rt d) S => .ok (.rt d) S
  | .ok (.bk ρ) S => .ok (.bk ρ) S
  | .ok (.ct ρ) S => .ok (.ct ρ) S
  | .ok (.xc ρ c x) S => .ok (.xc ρ c x) S
  | .bad => .bad
def sSeq (a b : MS) : MS := fun ρ S => (a ρ S).thn b
def sExpr (e : ME) : MS := fun ρ S => (e ρ S).go ρ fun _ S1 => .ok (.nx ρ) S1
def sRet (e : ME) : MS := fun ρ S => (e ρ S).go ρ fun d S1 => .ok (.rt d) S1
def sRetN : MS := fun ρ S => .ok (.rt (.p .non)) S
def sIf (t : MT) (a b : MS) : MS := fun ρ S => (t ρ S).go ρ fun c S1 => match c with
  | true => a ρ S1
  | false => b ρ S1
def sAsg (e : ME) (g : MG) : MS := fun ρ S => (e ρ S).go ρ fun d S1 => ((g d ρ S1).nox).go ρ fun ρ1 S2 => .ok (.nx ρ1) S2
def sPar (i j : Nat) (a : MA) : MS := fun ρ S => (a ρ S).go ρ fun ds S1 => match ds with
  | [d, d2] => .ok (.nx ((ρ.set i (some d)).set j (some d2))) S1
  | _ => .bad
def forGo (g : MG) (b : MS) : List P → En → Sto → RF
  | [], ρ, S => .ok (.nx ρ) S
  | x :: xs, ρ, S => ((g (.p x) ρ S).nox).go ρ fun ρ1 S1 => match b ρ1 S1 with
    | .ok (.nx ρ2) S2 => forGo g b xs ρ2 S2
    | .ok (.ct ρ2) S2 => forGo g b xs ρ2 S2
    | .ok (.bk ρ2) S2 => .ok (.nx ρ2) S2
    | .ok (.rt d) S2 => .ok (.rt d) S2
    | .ok (.xc ρ2 c x) S2 => .ok (.xc ρ2 c x) S2
    | .bad => .bad
def sFor (it : MI) (g : MG) (b : MS) : MS := fun ρ S => (it ρ S).go ρ fun xs S1 => forGo g b xs ρ S1
section
variable {X : Cx} {W : WX} {st : Stmt} {rest : List Stmt} {a b c e tg iter : Expr} {ma mb : ME} {m m2 : MS} {pos : Pos} {mt : MT}
theorem oss_nil : OSs X W [] sPass := ⟨_, pss_nil, fun ρ S io F σ H D s en h => h io F H σ Nxt.refl s en⟩
theorem oss_cons (h1 : OS X W st m) (h2 : OSs X W rest m2) : OSs X W (st :: rest) (sSeq m m2) := by
  obtain ⟨t, p, h1⟩ := h1
  obtain ⟨u, q, h2⟩ := h2
  refine ⟨_, pss_cons p q, fun ρ S io F σ H D s en h => ?_⟩
  refine h1 ρ S io F σ H _ s en ?_
  have h : RS X.K ((m ρ S).thn m2) io F H D W := h
  cases r : m ρ S with
  | bad => rw [r] at h; exact h
  | ok f S1 =>
    rw [r] at h
    cases f with
    | nx ρ1 => exact fun io1 F1 H1 σ1 n1 s1 en1 => h2 ρ1 S1 io1 F1 σ1 H1 D s1 en1 (RS.step n1 h)
    | rt d => exact h
    | bk ρ1 => exact h
    | ct ρ1 => exact h
    | xc ρ1 c x => exact h
theorem oss_one (h1 : OS X W st m) : OSs X W [st] m := by
  obtain ⟨t, p, h1⟩ := h1
  exact ⟨_, pss_one p, h1⟩
theorem os_never : OS X W st sNever := ⟨_, ps_never, fun ρ S io F σ H D s en h => h.elim⟩
theorem os_expr (he : OE X W e ma) (hs : swapsWith e none pos.line X.env = pure false := by rfl) : OS X W (.Expr e pos) (sExpr ma) := by
  obtain ⟨t, p, he⟩ := he
  refine ⟨_, ps_expr p hs, fun ρ S io F σ H D s en h => ?_⟩
  exact he ρ S io F σ H _ s en (RS.go en h fun d S1 io1 F1 H1 v e1 n1 s1 r1 h1 => h1 io1 F1 H1 σ Nxt.refl s1 (en.nxt n1))
theorem os_ret (he : OE X W e ma) : OS X W (.Return (some e) pos) (sRet ma) := by
  obtain ⟨t, p, he⟩ := he
  refine ⟨_, ps_ret p, fun ρ S io F σ H D s en h => ?_⟩
  exact he ρ S io F σ H _ s en (RS.go en h fun d S1 io1 F1 H1 v e1 n1 s1 r1 h1 => h1 io1 F1 H1 v Nxt.refl s1 r1)
theorem os_if {as bs : List Stmt} (hc : OT X W c mt) (ha : OSs X W as m) (hb : OSs X W bs m2) : OS X W (.If c as bs pos) (sIf mt m m2) := by
  obtain ⟨t, p, hc⟩ := hc
  obtain ⟨u, q, ha⟩ := ha
  obtain ⟨u2, q2, hb⟩ := hb
  refine ⟨_, ps_if p q q2, fun ρ S io F σ H D s en h => ?_⟩
  refine hc ρ S io F σ H _ s en (RS.go en h fun d S1 io1 F1 H1 v e1 n1 s1 r1 h1 => ?_)
  cases r1
  cases d with
  | true => exact iteT (ha ρ S1 io1 F1 σ H1 D s1 (en.nxt n1) h1)
  | false => exact iteF (hb ρ S1 io1 F1 σ H1 D s1 (en.nxt n1) h1)
theorem RS.nox {K : PySem.W.Frag} {io : Io} {F H : Hp} {A B : Type} {R : Io → Hp → A → B → Prop} {Q1 : B → Hp → Prop} {D : Ends} {ρ : En} {r : Res A} {f : A → Sto → RF} {E : XK} (h : RS K (r.nox.go ρ f) io F H D W)
    (k : ∀ a S1 io1 F1 H1 v, r = .ok a S1 → Nxt io F H io1 F1 H1 → Sta K io1 F1 S1 H1 → R io1 F1 a v → RS K (f a S1) io1 F1 H1 D W → Q1 v H1) : RG K R r io F H Q1 E := by
  cases r with
  | ok a S => exact fun io' F' H' v n s rp => k a S io' F' H' v rfl n s rp (RS.step n h)
  | exc c x S => exact h.elim
  | bad => exact h
theorem os_asg {js : List Nat} {g : MG} (he : OE X W e ma) (hg : OG X (fun _ _ _ _ => False) tg js g) (hs : swapsWithSole [tg] e pos.line X.env = pure false := by rfl) (hw : swappedStores [tg] e X.env = pure none := by rfl)
    (h1 : (assignEach [tg] X.env).map (·.2) = [assign tg X.env] := by rfl) : OS X W (.Assign [tg] e pos) (sAsg ma g) := by
  obtain ⟨t, p, he⟩ := he
  obtain ⟨u, q, hg⟩ := hg
  refine ⟨_, ps_asg p q hs hw h1, fun ρ S io F σ H D s en h => ?_⟩
  refine he ρ S io F σ H _ s en (RS.go en h fun d S1 io1 F1 H1 v e1 n1 s1 r1 h1 => ?_)
  exact hg d v ρ S1 io1 F1 σ H1 _ s1 (en.nxt n1) r1 (RS.nox h1 fun ρ1 S2 io2 F2 H2 σ2 e2 n2 s2 r2 h2 => h2 io2 F2 H2 σ2 Nxt.refl s2 r2.1)
theorem os_set {i : Nat} {x : Str} {pos' : Pos} (hN : X.N.Nodup) (he : OE X W e ma) (hi : X.N[i]? = some x := by rfl) (hx : Loc X.env.scope x := by first | exact Or.inl rfl | exact Or.inr rfl) (hs : swapsWith e (some (.Name x pos')) pos.line X.env = pure false := by rfl)
    (hf : X.fn x = true ∨ X.env.scope.names.lookup x = some .local := by first | exact .inl rfl | exact .inr rfl) : OS X W (.Assign [.Name x pos'] e pos) (sAsg ma (gNm i)) := by
  obtain ⟨t, p, he⟩ := he
  refine ⟨_, ps_set hN hi hx p hs hf, fun ρ S io F σ H D s en h => ?_⟩
  refine he ρ S io F σ H _ s en (RS.go en h fun d S1 io1 F1 H1 v e1 n1 s1 r1 h1 => ?_)
  exact h1 io1 F1 H1 (σ.set i (some v)) Nxt.refl s1 ((en.nxt n1).set r1 i)
theorem os_par {i j : Nat} {x y : Str} {mas : MA} {px py pt : Pos} {kt k2 pt2} (hc : X.calm = true) (hN : X.N.Nodup) (ha : OA X W [a, b] mas) (hi : X.N[i]? = some x := by rfl) (hj : X.N[j]? = some y := by rfl) (hij : i ≠ j := by decide)
    (hx : X.env.scope.names.lookup x = some .local := by rfl) (hy : X.env.scope.names.lookup y = some .local := by rfl)
    (hw : swappedStores [.Tuple [.Name x px, .Name y py] kt pt] (.Tuple [a, b] k2 pt2) X.env = pure (some [x, y]) := by rfl)
    (hs : swapsWithSole [.Tuple [.Name x px, .Name y py] kt pt] (.Tuple [a, b] k2 pt2) pos.line X.env = pure false := by rfl) :
    OS X W (.Assign [.Tuple [.Name x px, .Name y py] kt pt] (.Tuple [a, b] k2 pt2) pos) (sPar i j mas) := by
  obtain ⟨t, p, ha⟩ := ha
  refine ⟨_, ps_par hc hN hi hj hij hx hy p hw hs, fun ρ S io F σ H D s en h => ?_⟩
  refine ha ρ S io F σ H _ s en (RS.go en h fun ds S1 io1 F1 H1 vs e1 n1 s1 r1 h1 => ?_)
  match ds, r1, h1 with
  | [d, d2], ⟨v, w, e1, ra, ⟨v2, w2, e2, rb, e3⟩⟩, h1 =>
    have e3 : w2 = [] := e3
    subst e3; subst e2; subst e1
    exact ⟨v, v2, rfl, h1 io1 F1 H1 _ Nxt.refl s1 (((en.nxt n1).set ra i).set rb j)⟩
  | [], _, h1 => exact h1.elim
  | [_], _, h1 => exact h1.elim
  | _ :: _ :: _ :: _, _, h1 => exact h1.elim
theorem os_for {js : List Nat} {it : MI} {g : MG} {body : List Stmt} (hp : PassesOwn (model X.prog X.w) X.A X.env X.xe) (hc : X.calm = true) (hi : OI X W tg iter it) (hg : OG X (fun _ _ _ _ => False) tg js g) (hb : OSs X W body m)
    (hs : ∀ x, foldedSetIterable iter X.env x = pure x := by intro _; rfl) : OS X W (.For tg iter body [] pos) (sFor it g m) := by
  obtain ⟨t, p, hi⟩ := hi
  obtain ⟨u, q, hg⟩ := hg
  obtain ⟨u2, q2, hb⟩ := hb
  refine ⟨_, ps_for hp hc p q q2 hs, fun ρ S io F σ H D s en h => ?_⟩
  refine hi ρ S io F σ H _ s en (RS.go en h fun xs S1 io1 F1 H1 J e1 n1 s1 ij h1 => ?_)
  refine ⟨fun i k σ' H' => k = xs.length - i ∧ i ≤ xs.length ∧ ∃ ρ' S' io' F', Same F1 F' ∧ Sta X.K io' F' S' H' ∧ Mir.Env X.K io' F' ρ' σ' ∧ RS X.K (forGo g m (xs.drop i) ρ' S') io' F' H' D W,
    ⟨xs.length, by simp, Nat.zero_le _, ρ, S1, io1, F1, Same.refl _, s1, en.nxt n1, h1⟩, ?_⟩
  rintro i k σ' H' ⟨rfl, hle, ρ', S', io', F', hF, s', en', h'⟩
  obtain ⟨go, stop⟩ := ij io' F' S' H' i hF s'
  cases hx : xs[i]? with
  | none =>
    have hd : xs.drop i = [] := List.drop_eq_nil_of_le (List.getElem?_eq_none_iff.mp hx)
    rw [hd] at h'
    exact .inl ⟨stop hx, h' io' F' H' σ' Nxt.refl s' en'⟩
  | some x =>
    have hlt : i < xs.length := (List.getElem?_eq_some_iff.mp hx).1
    have hd : xs.drop i = x :: xs.drop (i + 1) := by
      rw [List.drop_eq_getElem_cons hlt]
      congr 1
      exact (List.getElem?_eq_some_iff.mp hx).2
    rw [hd] at h'
    obtain ⟨g1, g2⟩ := go x hx
    refine .inr ⟨g1, fun σ2 H2 => ∃ ρ2 S2 io2 F2, Same F1 F2 ∧ Sta X.K io2 F2 S2 H2 ∧ Mir.Env X.K io2 F2 ρ2 σ2 ∧ RS X.K (forGo g m (xs.drop (i + 1)) ρ2 S2) io2 F2 H2 D W, fun σ2 H2 hn => ⟨xs.length - (i + 1), by omega, rfl, hlt, hn⟩, fun v H'' hy => ?_⟩
    obtain ⟨F'', n2, s2, rv⟩ := g2 v H'' hy
    have h' : RS X.K (((g (.p x) ρ' S').nox).go ρ' fun ρ1 S1 => match m ρ1 S1 with
      | .ok (.nx ρ2) S2 => forGo g m (xs.drop (i + 1)) ρ2 S2
      | .ok (.ct ρ2) S2 => forGo g m (xs.drop (i + 1)) ρ2 S2
      | .ok (.bk ρ2) S2 => .ok (.nx ρ2) S2
      | .ok (.rt d) S2 => .ok (.rt d) S2
      | .ok (.xc ρ2 c x) S2 => .ok (.xc ρ2 c x) S2
      | .bad => .bad) io' F' H' D W := h'
    refine hg (.p x) v ρ' S' io' F'' σ' H'' _ s2 (en'.nxt n2) rv (RS.nox (RS.step n2 h') fun ρ3 S3 io3 F3 H3 σ3 e3 n3 s3 r3 h3 => ?_)
    refine hb ρ3 S3 io3 F3 σ3 H3 _ s3 r3.1 ?_
    have hF3 : Same F1 F3 := (hF.trans n2.fr).trans n3.fr
    cases r : m ρ3 S3 with
    | bad => rw [r] at h3; exact h3
    | ok f S4 =>
      rw [r] at h3
      cases f with
      | nx ρ4 => exact fun io4 F4 H4 σ4 n4 s4 en4 => ⟨ρ4, S4, io4, F4, hF3.trans n4.fr, s4, en4, RS.step n4 h3⟩
      | ct ρ4 => exact fun io4 F4 H4 σ4 n4 s4 en4 => ⟨ρ4, S4, io4, F4, hF3.trans n4.fr, s4, en4, RS.step n4 h3⟩
      | bk ρ4 => exact h3
      | rt d => exact h3
      | xc ρ4 c x => exact h3
end
def tsYes : MT := fun _ S => .ok true S
def lcGo (g : MG) (t : MT) (e : ME) (ρ : En) : List P → Sto → Res (List P)
  | [], S => .ok [] S
  | x :: xs, S => (g (.p x) ρ S).nox.bind fun ρ1 S1 => (t ρ1 S1).nox.bind fun b S2 => match b with
    | true => (e ρ1 S2).nox.bind fun d S3 => (frz d S3).bind fun y S4 => (lcGo g t e ρ xs S4).bind fun ys S5 => .ok (y :: ys) S5
    | false => lcGo g t e ρ xs S2
def eLc (it : MI) (vs : List Nat) (g : MG) (t : MT) (e : ME) : ME := fun ρ S => (it ρ S).bind fun xs S1 => if xs.length ≤ 100000 then (lcGo g t e (wipeE ρ vs) xs S1).bind fun ys S2 => .ok (.p (.lst ys)) S2 else .bad
def eLcC (it : MI) (vs : List Nat) (g : MG) (t : MT) (e : ME) : ME := fun ρ S => (it ρ S).bind fun xs S1 => if xs.length ≤ 100000 then (lcGo g t e (wipeE ρ vs) xs S1).bind fun ys S2 => .ok (.c S2.length) (S2 ++ [.lst ys]) else .bad
abbrev W0 : WX := fun _ _ _ _ => False
theorem pts_of_nil {X : Cx} : PTs X [] (tT X.K W0 tsYes) := ⟨fun pins s σ H Q I ⟨ρ, S, io, F, st, en, q⟩ => pts_nil.run pins s σ H Q I (RG.val (R := RepB) (d := true) (v := true) st rfl q)⟩
theorem pts_of_one {X : Cx} {c : Expr} {m : MT} (h : OT X W0 c m) : PTs X [c] (tT X.K W0 m) := pts_one h.pt
def OTs (X : Cx) (es : List Expr) (m : MT) : Prop := PTs X es (tT X.K W0 m)
theorem ots_nil {X : Cx} : OTs X [] tsYes := pts_of_nil
theorem ots_one {X : Cx} {c : Expr} {m : MT} (h : OT X W0 c m) : OTs X [c] m := pts_of_one h
section
variable {K : PySem.W.Frag} {Q : VK} {E : XK}
theorem lc_turns {wi : TI} {xs : List P} {J : It} {js vs : List Nat} {g : MG} {t : MT} {e : ME} {ρ : En} {σ : St} {S1 : Sto} {io1 : Io} {F1 H1 : Hp} {fin : List P → Sto → Res Vl} (s1 : Sta K io1 F1 S1 H1) (en : Mir.Env K io1 F1 ρ σ) (hj : ∀ j ∈ js, j ∈ vs)
    (ij : IterOk K F1 xs J) (hz : xs.length ≤ 100000) (h : RG K (RepA K) ((lcGo g t e (wipeE ρ vs) xs S1).bind fin) io1 F1 H1 Q E)
    (D : Addr) (hD : H1 D = none)
    (done : ∀ ys S2 io2 F2 H2 acc, Nxt io1 F1 H1 io2 F2 H2 → Sta K io2 F2 S2 H2 → (∀ k : Nat, io2[k]? ≠ some (some D)) → F2 D = none → H2 D = some (.lst acc) → RepL K F2 ys acc → RG K (RepA K) (fin ys S2) io1 F1 H1 Q E → Q (.ref D) H2) :
    ∃ W : Nat → Nat → Hp → Prop, (∃ m, W 0 m (upd H1 D (.lst []))) ∧ ∀ i m H, W i m H →
      (J.stop i H ∧ Q (.ref D) H) ∨ (J.go i H ∧ ∃ Nx : Hp → Prop, (∀ H', Nx H' → ∃ m', m' < m ∧ W (i + 1) m' H') ∧ ∀ x H', J.yld i H x H' → tG K W0 js g x (L2.wipe σ vs) H' fun σ2 H2 => L2.wipe σ2 vs = L2.wipe σ vs ∧ tT K W0 t σ2 H2 fun b H3 =>
        if b = true then tE K W0 e σ2 H3 fun y H4 => ∃ acc, H4 D = some (.lst acc) ∧ acc.length < sizeLine ∧ Nx (upd H4 D (.lst (acc ++ [y]))) else Nx H3) := by
  let Inv' : Nat → Hp → Prop := fun i H => ∃ S io F acc ys, Nxt io1 F1 H1 io F H ∧ Sta K io F S H ∧ (∀ k : Nat, io[k]? ≠ some (some D)) ∧ F D = none ∧ H D = some (.lst acc) ∧ RepL K F ys acc ∧ ys.length ≤ i ∧ RG K (RepA K) ((lcGo g t e (wipeE ρ vs) (xs.drop i) S).bind fun zs S2 => fin (ys ++ zs) S2) io1 F1 H1 Q E
  refine ⟨fun i m H => m = xs.length - i ∧ i ≤ xs.length ∧ Inv' i H, ⟨xs.length, by simp, Nat.zero_le _, S1, io1, F1, [], [], ?_, s1.side (s1.notIn hD) (Same.free s1.sub hD), s1.notIn hD, Same.free s1.sub hD, upd_same, .nil, Nat.le_refl _, ?_⟩, ?_⟩
  · refine ⟨fun _ _ z => z, fun _ _ z => z, fun a o z _ => ?_, fun _ _ z => .inl z, fun a z => ?_, fun _ z => .inl z⟩
    · rw [upd_ne (ne_of_none z hD)]; exact z
    · by_cases q : a = D
      · subst q; exact hD
      · rw [upd_ne q] at z; exact z
  · exact h
  rintro i m H ⟨rfl, hle, S, io, F, acc, ys, nx, st, nD, fD, hH, ra, hl, hh⟩
  obtain ⟨go, stop⟩ := ij io F S H i nx.fr st
  cases hx : xs[i]? with
  | none =>
    have hd : xs.drop i = [] := List.drop_eq_nil_of_le (List.getElem?_eq_none_iff.mp hx)
    rw [hd] at hh
    have hh : RG K (RepA K) (fin (ys ++ []) S) io1 F1 H1 Q E := hh
    rw [List.append_nil] at hh
    exact .inl ⟨stop hx, done ys S io F H acc nx st nD fD hH ra hh⟩
  | some x =>
    have hlt : i < xs.length := (List.getElem?_eq_some_iff.mp hx).1
    have hd : xs.drop i = x :: xs.drop (i + 1) := by
      rw [List.drop_eq_getElem_cons hlt]
      congr 1
      exact (List.getElem?_eq_some_iff.mp hx).2
    rw [hd] at hh
    obtain ⟨g1, g2⟩ := go x hx
    refine .inr ⟨g1, Inv' (i + 1), fun H' q => ⟨xs.length - (i + 1), by omega, rfl, hlt, q⟩, fun v H'' hy => ?_⟩
    obtain ⟨F'', n2, s2, rv⟩ := g2 v H'' hy
    have keepD : ∀ {io' : Io} {F' : Hp} {H' : Hp}, Nxt io F H io' F' H' → (∀ k : Nat, io'[k]? ≠ some (some D)) ∧ F' D = none ∧ H' D = some (.lst acc) := fun {io' F' H'} n => by
      refine ⟨fun k e => ?_, ?_, n.out D _ hH nD⟩
      · rcases n.new k D e with z | z
        · exact nD k z
        · rw [hH] at z; cases z
      · cases q : F' D with
        | none => rfl
        | some o =>
          rcases n.nf D (by rw [q]; exact fun z => nomatch z) with z | z | ⟨k, z⟩
          · exact absurd fD z
          · rw [hH] at z; cases z
          · exact absurd z (nD k)
    have hh : RG K (RepA K) (((g (.p x) (wipeE ρ vs) S).nox.bind fun ρ1 S1 => (t ρ1 S1).nox.bind fun b S2 => match b with
      | true => (e ρ1 S2).nox.bind fun d S3 => (frz d S3).bind fun y S4 => (lcGo g t e (wipeE ρ vs) (xs.drop (i + 1)) S4).bind fun ys S5 => .ok (y :: ys) S5
      | false => lcGo g t e (wipeE ρ vs) (xs.drop (i + 1)) S2).bind fun zs S2 => fin (ys ++ zs) S2) io1 F1 H1 Q E := hh
    cases q1 : g (.p x) (wipeE ρ vs) S with
    | bad => rw [q1] at hh; exact hh.elim
    | exc c x S => rw [q1] at hh; exact hh.elim
    | ok ρ1 Sa =>
      rw [q1] at hh
      refine ⟨.p x, wipeE ρ vs, S, io, F'', s2, ((en.nxt nx).nxt n2).wipe vs, rv, ?_⟩
      rw [q1]
      intro io3 F3 H3 σ3 n3 s3 r3
      refine ⟨?_, ?_⟩
      · rw [wipe_agree r3.2 hj]
        have key : ∀ (τ : St) (vs : List Nat), L2.wipe (L2.wipe τ vs) vs = L2.wipe τ vs := by
          intro τ vs
          apply List.ext_getElem?
          intro j
          have k2 : ∀ (τ : St) (vs : List Nat) (j : Nat), (L2.wipe τ vs)[j]? = if j ∈ vs then (τ[j]?).map (fun _ => none) else τ[j]? := wipe_get
          rw [k2, k2]
          by_cases hj : j ∈ vs
          · rw [if_pos hj, if_pos hj]
            cases τ[j]? <;> rfl
          · rw [if_neg hj, if_neg hj]
        exact key σ vs
      have hh : RG K (RepA K) (((t ρ1 Sa).nox.bind fun b S2 => match b with
        | true => (e ρ1 S2).nox.bind fun d S3 => (frz d S3).bind fun y S4 => (lcGo g t e (wipeE ρ vs) (xs.drop (i + 1)) S4).bind fun ys S5 => .ok (y :: ys) S5
        | false => lcGo g t e (wipeE ρ vs) (xs.drop (i + 1)) S2).bind fun zs S2 => fin (ys ++ zs) S2) io1 F1 H1 Q E := hh
      cases q2 : t ρ1 Sa with
      | bad => rw [q2] at hh; exact hh.elim
      | exc c x S => rw [q2] at hh; exact hh.elim
      | ok b Sb =>
        rw [q2] at hh
        refine ⟨ρ1, Sa, io3, F3, s3, r3.1, ?_⟩
        rw [q2]
        intro io4 F4 H4 b' n4 s4 r4
        cases r4
        cases b with
        | false =>
          refine iteF ?_
          obtain ⟨d1, d2, d3⟩ := keepD ((n2.trans n3).trans n4)
          exact ⟨Sb, io4, F4, acc, ys, nx.trans ((n2.trans n3).trans n4), s4, d1, d2, d3, RepL.mono ((n2.trans n3).trans n4).fr ra, Nat.le_succ_of_le hl, hh⟩
        | true =>
          refine iteT ?_
          have hh : RG K (RepA K) (((e ρ1 Sb).nox.bind fun d S3 => (frz d S3).bind fun y S4 => (lcGo g t e (wipeE ρ vs) (xs.drop (i + 1)) S4).bind fun ys S5 => .ok (y :: ys) S5).bind fun zs S2 => fin (ys ++ zs) S2) io1 F1 H1 Q E := hh
          cases q3 : e ρ1 Sb with
          | bad => rw [q3] at hh; exact hh.elim
          | exc c x S => rw [q3] at hh; exact hh.elim
          | ok d Sc =>
            rw [q3] at hh
            refine ⟨ρ1, Sb, io4, F4, s4, r3.1.nxt n4, ?_⟩
            rw [q3]
            intro io5 F5 H5 w n5 s5 r5
            have hh : RG K (RepA K) (((frz d Sc).bind fun y S4 => (lcGo g t e (wipeE ρ vs) (xs.drop (i + 1)) S4).bind fun ys S5 => .ok (y :: ys) S5).bind fun zs S2 => fin (ys ++ zs) S2) io1 F1 H1 Q E := hh
            have n15 := ((n2.trans n3).trans n4).trans n5
            cases q4 : frz d Sc with
            | bad => rw [q4] at hh; exact hh.elim
            | exc c x S =>
              exact absurd q4 (frz_nox _ _ _ _ _)
            | ok y Sd =>
              rw [q4] at hh
              obtain ⟨y', Sd', F6, n6, s6, rp, hz6, _⟩ := s5.frz (C := Vl) (D := V) (R' := RepA K) (g := fun _ S => .ok (.p .non) S) (Q := fun _ _ => True) (E := fun _ _ _ => True) r5 (by rw [q4]; exact fun _ _ _ _ _ _ _ => trivial)
              rw [q4] at hz6; cases hz6
              obtain ⟨d1, d2, d3⟩ := keepD (n15.trans n6)
              have hlen : acc.length ≤ i := by rw [ra.length]; exact hl
              refine ⟨acc, d3, sz5l (by omega), ?_⟩
              have nx' := nx.trans (n15.trans n6)
              refine ⟨Sd, io5, F6, acc ++ [w], ys ++ [y], ?_, s6.side d1 d2, d1, d2, upd_same, (RepL.mono (n15.trans n6).fr ra).append (.cons rp .nil), by rw [List.length_append]; exact Nat.succ_le_succ hl, ?_⟩
              · refine ⟨nx'.han, nx'.fr, fun a o z zn => ?_, nx'.new, fun a z => ?_, nx'.nf⟩
                · rw [upd_ne (ne_of_none z hD)]; exact nx'.out a o z zn
                · by_cases q : a = D
                  · subst q; exact hD
                  · rw [upd_ne q] at z; exact nx'.stay a z
              · have hh : RG K (RepA K) (((lcGo g t e (wipeE ρ vs) (xs.drop (i + 1)) Sd).bind fun ys S5 => Res.ok (y :: ys) S5).bind fun zs S2 => fin (ys ++ zs) S2) io1 F1 H1 Q E := hh
                have q5 : (((lcGo g t e (wipeE ρ vs) (xs.drop (i + 1)) Sd).bind fun ys S5 => Res.ok (y :: ys) S5).bind fun zs S2 => fin (ys ++ zs) S2) = (lcGo g t e (wipeE ρ vs) (xs.drop (i + 1)) Sd).bind fun zs S2 => fin (ys ++ [y] ++ zs) S2 := by
                  cases lcGo g t e (wipeE ρ vs) (xs.drop (i + 1)) Sd with
                  | bad => rfl
                  | exc c x S => rfl
                  | ok zs S =>
                    show fin (ys ++ (y :: zs)) S = fin (ys ++ [y] ++ zs) S
                    rw [List.append_assoc]
                    rfl
                rw [q5] at hh
                exact hh
end
section
variable {X : Cx} {W : WX} {elt tg iter : Expr} {ifs : List Expr} {scope : Scope} {own : List (Str × Nat)} {pos : Pos} {it : MI} {js : List Nat} {g : MG} {t : MT} {e : ME}
theorem oe_lc (hc : X.calm = true) (hN : X.N.Nodup) (hi : OI X W tg iter it) (ok : BlkOk X.N X.env.scope scope own) (hj : ∀ j ∈ js, j ∈ own.map (·.2))
    (hg : ∀ (s : Shared) (H : Hp) (C : Addr) (cl : List (Str × Addr)) (fp : List Addr), OG (X.blk s H scope (compEnvC scope cl C X.env) fp) W0 tg js g) (ht : ∀ (s : Shared) (H : Hp) (C : Addr) (cl : List (Str × Addr)) (fp : List Addr), OTs (X.blk s H scope (compEnvC scope cl C X.env) fp) ifs t)
    (he : ∀ (s : Shared) (H : Hp) (C : Addr) (cl : List (Str × Addr)) (fp : List Addr), OE (X.blk s H scope (compEnvC scope cl C X.env) fp) W0 elt e) (hs : ∀ x, foldedSetIterable iter X.env x = pure x := by intro _; rfl) :
    OE X W (.ListComp elt [⟨tg, iter, ifs, 0⟩] scope pos) (eLc it (own.map (·.2)) g t e) := by
  obtain ⟨wi, p, hi⟩ := hi
  refine ⟨_, pe_lc (g := tG X.K W0 js g) (tt := tT X.K W0 t) (te := tE X.K W0 e) hc hN p ok (fun s H C cl fp => (hg s H C cl fp).pg) (fun s H C cl fp => ht s H C cl fp) (fun s H C cl fp => (he s H C cl fp).pe) hs, fun ρ S io F σ H Q st en h => ?_⟩
  refine hi ρ S io F σ H _ st en (RG.bind h fun xs S1 io1 F1 H1 J e1 n1 s1 ij h1 => ?_)
  intro D hD
  by_cases hz : xs.length ≤ 100000
  · rw [if_pos hz] at h1
    refine lc_turns (wi := wi) s1 (en.nxt n1) hj ij hz h1 D hD fun ys S2 io2 F2 H2 acc nx s2 nD fD hH ra h2 => ?_
    refine h2 io2 (upd F2 D (.lst acc)) H2 (.ref D) ?_ ?_ ⟨D, acc, rfl, upd_same, RepL.mono (upd_same_of fD) ra⟩
    · refine ⟨nx.han, nx.fr.trans (upd_same_of fD), nx.out, nx.new, nx.stay, fun a z => ?_⟩
      by_cases q : a = D
      · subst q; exact .inr (.inl hD)
      · rw [upd_ne q] at z; exact nx.nf a z
    · refine ⟨s2.len, s2.inj, fun a u z => ?_, s2.trk, fun k c z => ?_⟩
      · by_cases q : a = D
        · subst q; rw [upd_same] at z; cases z; exact hH
        · rw [upd_ne q] at z; exact s2.sub _ _ z
      · refine (s2.cel k c z).mono (fun _ _ z => z) (upd_same_of fD) (fun b hb hn => ?_) fun _ _ _ hu => hu
        rw [upd_ne (fun q => by subst q; exact nD k hb)]
        exact hn
  · rw [if_neg hz] at h1
    exact h1.elim
theorem os_setLc {i : Nat} {y : Str} {py spos : Pos} (hc : X.calm = true) (hN : X.N.Nodup) (hi : OI X W tg iter it) (ok : BlkOk X.N X.env.scope scope own) (hj : ∀ j ∈ js, j ∈ own.map (·.2))
    (hg : ∀ (s : Shared) (H : Hp) (C : Addr) (cl : List (Str × Addr)) (fp : List Addr), OG (X.blk s H scope (compEnvC scope cl C X.env) fp) W0 tg js g) (ht : ∀ (s : Shared) (H : Hp) (C : Addr) (cl : List (Str × Addr)) (fp : List Addr), OTs (X.blk s H scope (compEnvC scope cl C X.env) fp) ifs t)
    (he : ∀ (s : Shared) (H : Hp) (C : Addr) (cl : List (Str × Addr)) (fp : List Addr), OE (X.blk s H scope (compEnvC scope cl C X.env) fp) W0 elt e) (hy : X.N[i]? = some y := by rfl) (hyl : X.env.scope.names.lookup y = some .local := by rfl)
    (hsw : swapsWith (.ListComp elt [⟨tg, iter, ifs, 0⟩] scope pos) (some (.Name y py)) spos.line X.env = pure true := by exact sw_true rfl rfl rfl (by decide +kernel)) (hs : ∀ x, foldedSetIterable iter X.env x = pure x := by intro _; rfl) :
    OS X W (.Assign [.Name y py] (.ListComp elt [⟨tg, iter, ifs, 0⟩] scope pos) spos) (sAsg (eLc it (own.map (·.2)) g t e) (gNm i)) := by
  have := oe_lc (pos := pos) hc hN hi ok hj hg ht he hs
  obtain ⟨wi, p, hi⟩ := hi
  refine ⟨_, ps_setLc (g := tG X.K W0 js g) (tt := tT X.K W0 t) (te := tE X.K W0 e) hc hN hy hyl hsw p ok (fun s H C cl fp => (hg s H C cl fp).pg) (fun s H C cl fp => ht s H C cl fp) (fun s H C cl fp => (he s H C cl fp).pe) hs, fun ρ S io F σ H D' st en h => ?_⟩
  have h := RS.go (R := RepA X.K) (Q1 := fun v H1 => gName i v σ H1 D'.nx) en h fun d S1 io1 F1 H1 v e1 n1 s1 r1 h1 => h1 io1 F1 H1 (σ.set i (some v)) Nxt.refl s1 ((en.nxt n1).set r1 i)
  show tLc wi _ _ _ _ σ H (fun v H1 => gName i v σ H1 D'.nx)
  refine hi ρ S io F σ H _ st en (RG.bind h fun xs S1 io1 F1 H1 J e1 n1 s1 ij h1 => ?_)
  intro D hD
  by_cases hz : xs.length ≤ 100000
  · rw [if_pos hz] at h1
    refine lc_turns (wi := wi) s1 (en.nxt n1) hj ij hz h1 D hD fun ys S2 io2 F2 H2 acc nx s2 nD fD hH ra h2 => ?_
    refine h2 io2 (upd F2 D (.lst acc)) H2 (.ref D) ?_ ?_ ⟨D, acc, rfl, upd_same, RepL.mono (upd_same_of fD) ra⟩
    · refine ⟨nx.han, nx.fr.trans (upd_same_of fD), nx.out, nx.new, nx.stay, fun a z => ?_⟩
      by_cases q : a = D
      · subst q; exact .inr (.inl hD)
      · rw [upd_ne q] at z; exact nx.nf a z
    · refine ⟨s2.len, s2.inj, fun a u z => ?_, s2.trk, fun k c z => ?_⟩
      · by_cases q : a = D
        · subst q; rw [upd_same] at z; cases z; exact hH
        · rw [upd_ne q] at z; exact s2.sub _ _ z
      · refine (s2.cel k c z).mono (fun _ _ z => z) (upd_same_of fD) (fun b hb hn => ?_) fun _ _ _ hu => hu
        rw [upd_ne (fun q => by subst q; exact nD k hb)]
        exact hn
  · rw [if_neg hz] at h1
    exact h1.elim
end
end Mir

namespace Mir
open PySem L2
def isL (S : Sto) : Vl → Bool
  | .p (.lst _) => true
  | .c k => (match S[k]? with
    | some (.lst _) => true
    | some (.lsv _) => true
    | _ => false)
  | _ => false
section
variable {K : PySem.W.Frag} {io : Io} {F : Hp} {S : Sto} {H : Hp}
theorem Sta.isL (st : Sta K io F S H) {d : Vl} {v : V} (r : RepV K io F d v) (h : Mir.isL S d = true) : tyV K "list" v H := by
  cases d with
  | p x =>
    cases x with
    | lst xs =>
      obtain ⟨a, vs, rfl, h1, _⟩ := r
      exact .inl ⟨rfl, vs, SqL.of (st.sub _ _ h1)⟩
    | _ => cases h
  | c k =>
    obtain ⟨a, ha, rfl⟩ := r
    unfold Mir.isL at h
    dsimp only at h
    cases hk : S[k]? with
    | none => rw [hk] at h; cases h
    | some c =>
      rw [hk] at h
      cases c with
      | lst xs =>
        obtain ⟨b, vs, hb, _, hH, _⟩ := st.cel k _ hk
        rw [ha] at hb; cases hb
        exact .inl ⟨rfl, vs, SqL.of hH⟩
      | lsv xs =>
        obtain ⟨b, vs, hb, _, hH, _⟩ := st.cel k _ hk
        rw [ha] at hb; cases hb
        exact .inl ⟨rfl, vs, SqL.of hH⟩
      | _ => cases h
theorem Sta.wlst (st : Sta K io F S H) {k : Nat} {a : Addr} {c : Cell} {xs : List P} {vs : List V} (hk : S[k]? = some c) (hc : ∀ x, c ≠ .fz x) (hc2 : c ≠ .res) (hc3 : ∀ ys, c ≠ .tup ys) (ha : io[k]? = some (some a)) (r : RepL K F xs vs) (hc4 : ∀ ys, c ≠ .dvs ys ∧ c ≠ .tpz ys := by exact fun _ => ⟨(fun z => nomatch z), (fun z => nomatch z)⟩) :
    Sta K io F (S.set k (.lst xs)) (upd H a (.lst vs)) ∧ Nxt io F H io F (upd H a (.lst vs)) := by
  obtain ⟨b, o, hb, hF, hH⟩ := (st.cel k c hk).there hc hc2 hc3 hc4
  rw [ha] at hb; cases hb
  exact st.write ha hF ⟨a, vs, ha, hF, upd_same, r⟩
theorem Sta.wlsv (st : Sta K io F S H) {k : Nat} {a : Addr} {c : Cell} {xs : List Vl} {vs : List V} (hk : S[k]? = some c) (hc : ∀ x, c ≠ .fz x) (hc2 : c ≠ .res) (hc3 : ∀ ys, c ≠ .tup ys) (ha : io[k]? = some (some a)) (r : RepVs K io F xs vs) (hj : ∀ j, Vl.c j ∈ xs → j < k) (hc4 : ∀ ys, c ≠ .dvs ys ∧ c ≠ .tpz ys := by exact fun _ => ⟨(fun z => nomatch z), (fun z => nomatch z)⟩) :
    Sta K io F (S.set k (.lsv xs)) (upd H a (.lst vs)) ∧ Nxt io F H io F (upd H a (.lst vs)) := by
  obtain ⟨b, o, hb, hF, hH⟩ := (st.cel k c hk).there hc hc2 hc3 hc4
  rw [ha] at hb; cases hb
  exact st.write ha hF ⟨a, vs, ha, hF, upd_same, r, hj⟩
theorem RepVs.append : ∀ {xs ys : List Vl} {vs ws : List V}, RepVs K io F xs vs → RepVs K io F ys ws → RepVs K io F (xs ++ ys) (vs ++ ws)
  | [], _, _, _, h, t => by
    have h' : _ = _ := h
    subst h'
    exact t
  | x :: xs, ys, vs, ws, h, t => by
    obtain ⟨v, r, e1, h1, h2⟩ := h
    subst e1
    exact ⟨v, r ++ ws, rfl, h1, RepVs.append h2 t⟩
theorem RepVs.set : ∀ {xs : List Vl} {vs : List V} {x : Vl} {v : V} (i : Nat), RepVs K io F xs vs → RepV K io F x v → RepVs K io F (xs.set i x) (vs.set i v)
  | [], _, _, _, _, h, _ => by
    have h' : _ = _ := h
    subst h'
    exact rfl
  | y :: xs, vs, x, v, 0, h, hx => by
    obtain ⟨u, r, e1, h1, h2⟩ := h
    subst e1
    exact ⟨v, r, rfl, hx, h2⟩
  | y :: xs, vs, x, v, i + 1, h, hx => by
    obtain ⟨u, r, e1, h1, h2⟩ := h
    subst e1
    exact ⟨u, r.set i v, rfl, h1, RepVs.set i h2 hx⟩
theorem RepVs.one {x : Vl} {vs : List V} (h : RepVs K io F [x] vs) : ∃ v, vs = [v] ∧ RepV K io F x v := by
  obtain ⟨v, r, e, h1, h2⟩ := h
  have h2 : r = [] := h2
  subst h2
  exact ⟨v, e, h1⟩
end
abbrev FM := Vl → List Vl → Sto → Res Vl
def MutOk (K : PySem.W.Frag) (r : V → List V → Hp → VK → Prop) (f : FM) : Prop := ∀ (io : Io) (F : Hp) (S : Sto) (H : Hp) (d : Vl) (v : V) (ds : List Vl) (vs : List V) (Q : VK) (E : XK), Sta K io F S H → RepV K io F d v → RepVs K io F ds vs →
  RG K (RepA K) (f d ds S) io F H Q E → r v vs H Q
def eMut (g : Sto → Vl → Bool) (f : FM) (o : ME) (a : MA) : ME := fun ρ S => (o ρ S).bind fun d S1 => if g S1 d then (a ρ S1).bind fun ds S2 => f d ds S2 else .bad
def GuardOk (K : PySem.W.Frag) (T : String) (g : Sto → Vl → Bool) : Prop := ∀ (io : Io) (F : Hp) (S : Sto) (H : Hp) (d : Vl) (v : V), Sta K io F S H → RepV K io F d v → g S d = true → tyV K T v H
theorem guardL {K : PySem.W.Frag} : GuardOk K "list" isL := fun io F S H d v st r h => st.isL r h
section
variable {X : Cx} {W : WX} {a b c e o : Expr} {ma mb mc mo : ME} {pos apos : Pos} {es : List Expr} {mas : MA}
theorem oe_mut {T id : String} {name : Str} {r : V → List V → Hp → VK → Prop} {g : Sto → Vl → Bool} {f : FM} (pa : PlainAttrs T) (slot : Slot T name id) (hty : typeOf (.builtin id) = pure (.type "method_descriptor")) (hm : MtR X id r) (hg : GuardOk X.K T g) (hf : MutOk X.K r f)
    (ho : OE X W o mo) (ha : OA X W (e :: es) mas)
    (hbase : attributeBase o name X.env (eval o X.env) = eval o X.env := by rfl)
    (hfew : ((backTo pos (starEach (e :: es) X.env)).all (fun x => !x.1) && (backToKw pos (keywordEach [] X.env)).all (fun x => x.1.isSome)
      && decide ((e :: es).length + ([] : List Keyword).length + (if ([] : List Keyword).isEmpty then 0 else 1) < 30)) = true := by rfl)
    (hline : (apos.endLine == pos.line) = true := by rfl) (hs : starEach (e :: es) X.env = (false, eval e X.env) :: starEach es X.env := by rfl) (hplain : (backTo pos (starEach es X.env)).any (·.1) = false := by rfl) :
    OE X W (.Call (.Attribute o name apos) (e :: es) [] pos) (eMut g f mo mas) := by
  obtain ⟨u, p, ho⟩ := ho
  obtain ⟨t, q, ha⟩ := ha
  refine ⟨_, pe_bm pa slot hty hm p q hbase hfew hline hs hplain, fun ρ S io F σ H Q st en h => ?_⟩
  refine ho ρ S io F σ H _ st en (RG.bind h fun d S1 io1 F1 H1 v e1 n1 s1 r1 h1 => ?_)
  by_cases q2 : g S1 d = true
  · rw [if_pos q2] at h1
    refine ⟨hg _ _ _ _ _ _ s1 r1 q2, ?_⟩
    refine ha ρ S1 io1 F1 σ H1 _ s1 (en.nxt n1) (RG.bind h1 fun d2 S2 io2 F2 H2 v2 e2 n2 s2 r2 h2 => ?_)
    exact hf io2 F2 S2 H2 d v d2 v2 Q _ s2 (r1.mono n2.han n2.fr) r2 h2
  · rw [if_neg q2] at h1
    exact h1.elim
theorem oe_mut0 {T id : String} {name : Str} {r : V → List V → Hp → VK → Prop} {g : Sto → Vl → Bool} {f : FM} (pa : PlainAttrs T) (slot : Slot T name id) (hty : typeOf (.builtin id) = pure (.type "method_descriptor")) (hm : MtR X id r) (hg : GuardOk X.K T g) (hf : MutOk X.K r f)
    (ho : OE X W o mo) (hbase : attributeBase o name X.env (eval o X.env) = eval o X.env := by rfl) (hline : (apos.endLine == pos.line) = true := by rfl) :
    OE X W (.Call (.Attribute o name apos) [] [] pos) (eMut g f mo aNil) := by
  obtain ⟨u, p, ho⟩ := ho
  refine ⟨_, pe_bm0 pa slot hty hm p hbase hline, fun ρ S io F σ H Q st en h => ?_⟩
  refine ho ρ S io F σ H _ st en (RG.bind h fun d S1 io1 F1 H1 v e1 n1 s1 r1 h1 => ?_)
  by_cases q2 : g S1 d = true
  · rw [if_pos q2] at h1
    refine ⟨hg _ _ _ _ _ _ s1 r1 q2, ?_⟩
    exact hf io1 F1 S1 H1 d v [] [] Q _ s1 r1 rfl h1
  · rw [if_neg q2] at h1
    exact h1.elim
def fApp : FM := fun d ds S => match d, ds with
  | .c k, [y] => (match S[k]? with
    | some (.lst _) => (frz y S).bind fun z S1 => (match S1[k]? with
      | some (.lst xs) => if xs.length < 100000 then .ok (.p .non) (S1.set k (.lst (xs ++ [z]))) else .bad
      | _ => .bad)
    | some (.lsv xs) => if xs.length < 100000 then (match y with
      | .p _ => .ok (.p .non) (S.set k (.lsv (xs ++ [y])))
      | .c j => if j < k then .ok (.p .non) (S.set k (.lsv (xs ++ [y]))) else .bad) else .bad
    | _ => .bad)
  | _, _ => .bad
theorem ok_app {K : PySem.W.Frag} : MutOk K rAppend fApp := by
  intro io F S H d v ds vs Q E st r1 r2 h
  match d, ds, r1, r2, h with
  | .p x, ds, _, _, h => exact h.elim
  | .c k, [], _, _, h => exact h.elim
  | .c k, _ :: _ :: _, _, _, h => exact h.elim
  | .c k, [y], r1, r2, h =>
    obtain ⟨a, ha, rfl⟩ := r1
    obtain ⟨w, rfl, rw'⟩ := r2.one
    unfold fApp at h
    dsimp only at h
    cases hk : S[k]? with
    | none => rw [hk] at h; exact h.elim
    | some c =>
      rw [hk] at h
      cases c with
      | lst xs0 =>
        dsimp only at h
        obtain ⟨z, S1, F1, n1, s1, rp, hz, h1⟩ := st.frz rw' h
        cases hk1 : S1[k]? with
        | none => rw [hk1] at h1; exact h1.elim
        | some c1 =>
          rw [hk1] at h1
          cases c1 with
          | lst xs =>
            dsimp only at h1
            by_cases q : xs.length < 100000
            · rw [if_pos q] at h1
              obtain ⟨b, us, hb, hF, hH, hr⟩ := s1.cel k _ hk1
              rw [ha] at hb; cases hb
              refine ⟨a, us, w, rfl, rfl, hH, by rw [hr.length]; exact sz5l q, ?_⟩
              obtain ⟨s2, n2⟩ := s1.wlst hk1 (fun _ z => nomatch z) (fun z => nomatch z) (fun _ z => nomatch z) ha (hr.append (.cons rp .nil))
              exact h1 io F1 _ .non n2 s2 rfl
            · rw [if_neg q] at h1; exact h1.elim
          | _ => exact h1.elim
      | lsv xs =>
        dsimp only at h
        by_cases q : xs.length < 100000
        · rw [if_pos q] at h
          obtain ⟨b, us, hb, hF, hH, hr, hlt⟩ := st.cel k _ hk
          rw [ha] at hb; cases hb
          refine ⟨a, us, w, rfl, rfl, hH, by rw [hr.length]; exact sz5l q, ?_⟩
          have key : ∀ (hj : ∀ j, y = .c j → j < k), RG K (RepA K) (.ok (.p .non) (S.set k (.lsv (xs ++ [y])))) io F H Q E → Q .non (upd H a (.lst (us ++ [w]))) := fun hj h => by
            obtain ⟨s2, n2⟩ := st.wlsv hk (fun _ z => nomatch z) (fun z => nomatch z) (fun _ z => nomatch z) ha (hr.append (ys := [y]) (ws := [w]) ⟨w, [], rfl, rw', rfl⟩) (fun j hm => by
              rcases List.mem_append.mp hm with z | z
              · exact hlt j z
              · exact hj j (List.mem_singleton.mp z).symm)
            exact h io F _ .non n2 s2 rfl
          cases y with
          | p x => exact key (fun j z => nomatch z) h
          | c j =>
            dsimp only at h
            by_cases q2 : j < k
            · rw [if_pos q2] at h
              exact key (fun i z => by cases z; exact q2) h
            · rw [if_neg q2] at h; exact h.elim
        · rw [if_neg q] at h; exact h.elim
      | _ => exact h.elim
theorem oe_append (ho : OE X W o mo) (ha : OE X W a ma) (hbase : attributeBase o "append" X.env (eval o X.env) = eval o X.env := by rfl)
    (hfew : ((backTo pos (starEach [a] X.env)).all (fun x => !x.1) && (backToKw pos (keywordEach [] X.env)).all (fun x => x.1.isSome)
      && decide (([a] : List Expr).length + ([] : List Keyword).length + (if ([] : List Keyword).isEmpty then 0 else 1) < 30)) = true := by rfl) (hline : (apos.endLine == pos.line) = true := by rfl) (hs : starEach [a] X.env = (false, eval a X.env) :: starEach [] X.env := by rfl) :
    OE X W (.Call (.Attribute o "append" apos) [a] [] pos) (eMut isL fApp mo (aCons ma aNil)) := oe_mut PySem.F.plainAttrs_list PySem.F.slot_list_append PySem.F.type_list_append mt_append guardL ok_app ho (oa_cons ha oa_nil hs) hbase hfew hline hs rfl
def fPop : FM := fun d ds S => match d, ds with
  | .c k, [] => (match S[k]? with
    | some (.lst xs) => (match xs[xs.length - 1]? with
      | some y => .ok (.p y) (S.set k (.lst xs.dropLast))
      | none => .bad)
    | _ => .bad)
  | _, _ => .bad
theorem ok_pop {K : PySem.W.Frag} : MutOk K rPop fPop := by
  intro io F S H d v ds vs Q E st r1 r2 h
  match d, ds, r1, r2, h with
  | .p x, ds, _, _, h => exact h.elim
  | .c k, _ :: _, _, _, h => exact h.elim
  | .c k, [], r1, r2, h =>
    obtain ⟨a, ha, rfl⟩ := r1
    have r2 : _ = _ := r2
    subst r2
    unfold fPop at h
    dsimp only at h
    split at h
    · rename_i xs hk
      cases hy : xs[xs.length - 1]? with
      | none => rw [hy] at h; exact h.elim
      | some y =>
        rw [hy] at h
        obtain ⟨b, us, hb, hF, hH, hr⟩ := st.cel k _ hk
        rw [ha] at hb; cases hb
        obtain ⟨w, hw, rw'⟩ := hr.get hy
        refine ⟨a, us, w, rfl, rfl, hH, by rw [hr.length]; exact hw, ?_⟩
        obtain ⟨s2, n2⟩ := st.wlst hk (fun _ z => nomatch z) (fun z => nomatch z) (fun _ z => nomatch z) ha hr.dropLast
        exact h io F _ w n2 s2 (Rep.mono n2.fr rw')
    · exact h.elim
theorem oe_pop (ho : OE X W o mo) (hbase : attributeBase o "pop" X.env (eval o X.env) = eval o X.env := by rfl) (hline : (apos.endLine == pos.line) = true := by rfl) :
    OE X W (.Call (.Attribute o "pop" apos) [] [] pos) (eMut isL fPop mo aNil) := oe_mut0 PySem.F.plainAttrs_list PySem.F.slot_list_pop PySem.F.type_list_pop mt_pop guardL ok_pop ho hbase hline
def ixV (d i : Vl) (S : Sto) : Res Vl := match d, i with
  | .c k, .p (.int j) => (match S[k]? with
    | some (.lsv xs) => (match atI xs j with
      | some x => .ok x S
      | none => .bad)
    | _ => op2 pIx d i S)
  | _, _ => op2 pIx d i S
def eItem (a b : ME) : ME := fun ρ S => (a ρ S).bind fun d S1 => (b ρ S1).bind fun i S2 => ixV (nv S2 d) i S2
theorem atI_repV {K : PySem.W.Frag} {io : Io} {F : Hp} {xs : List Vl} {vs : List V} {i : Int} {z : Vl} (r : RepVs K io F xs vs) (e : atI xs i = some z) : ∃ v, atI vs i = some v ∧ RepV K io F z v := by
  unfold atI at e ⊢
  rw [r.length]
  cases q : ixN xs.length i with
  | none => rw [q] at e; cases e
  | some k =>
    rw [q] at e
    exact r.get e
theorem oe_it (ha : OE X W a ma) (hb : OE X W b mb) (hs : PlainIx b := by intro _ _; rfl) : OE X W (.Subscript a b pos) (eItem ma mb) := by
  obtain ⟨ta, pa, ha⟩ := ha
  obtain ⟨tb, pb, hb⟩ := hb
  refine ⟨_, pe_ix (IxR.or (IxR.or ix_list ix_tup) ix_str) pa pb hs, fun ρ S io F σ H Q st en h => ?_⟩
  refine ha ρ S io F σ H _ st en (RG.bind h fun d S1 io1 F1 H1 v e1 n1 s1 r1 h1 => ?_)
  refine hb ρ S1 io1 F1 σ H1 _ s1 (en.nxt n1) (RG.bind h1 fun d2 S2 io2 F2 H2 v2 e2 n2 s2 r2 h2 => ?_)
  replace r1 := s2.nv (r1.mono n2.han n2.fr)
  generalize nv S2 d = d at r1 h2
  unfold ixV at h2
  split at h2
  · rename_i k j
    split at h2
    · rename_i xs hk
      cases hx : atI xs j with
      | none => rw [hx] at h2; exact h2.elim
      | some x =>
        rw [hx] at h2
        obtain ⟨a', ha', rfl⟩ := r1
        have r2 : v2 = .int j := r2
        subst r2
        obtain ⟨b, us, hb, hF, hH, hr, _⟩ := s2.cel k _ hk
        rw [ha'] at hb; cases hb
        obtain ⟨u, hu, ru⟩ := atI_repV hr hx
        exact .inl (.inl ⟨a', us, j, u, rfl, rfl, SqL.of hH, hu, h2 io2 F2 H2 u Nxt.refl s2 ru⟩)
    · exact s2.op2 ok_ix r1 r2 h2
  · exact s2.op2 ok_ix r1 r2 h2
def setV (o i v : Vl) (S : Sto) : Res Unit := match o, i with
  | .c k, .p (.int j) => (match S[k]? with
    | some (.lst _) => (frz v S).bind fun z S1 => (match S1[k]? with
      | some (.lst xs) => (match ixN xs.length j with
        | some n => .ok () (S1.set k (.lst (xs.set n z)))
        | none => .bad)
      | _ => .bad)
    | some (.lsv xs) => (match ixN xs.length j with
      | some n => (match v with
        | .p _ => .ok () (S.set k (.lsv (xs.set n v)))
        | .c m => if m < k then .ok () (S.set k (.lsv (xs.set n v))) else .bad)
      | none => .bad)
    | _ => .bad)
  | _, _ => .bad
def gSubM (o i : ME) : MG := fun d ρ S => (o ρ S).nox.bind fun a S1 => (i ρ S1).nox.bind fun b S2 => (setV a b d S2).bind fun _ S3 => .ok ρ S3
theorem Sta.setV {K : PySem.W.Frag} {io : Io} {F : Hp} {S : Sto} {H : Hp} {o i d : Vl} {vo vi v : V} {C D : Type} {R' : Io → Hp → C → D → Prop} {g : Unit → Sto → Res C} {Q : D → Hp → Prop} {E : XK} (st : Sta K io F S H) (ro : RepV K io F o vo) (ri : RepV K io F i vi) (rv : RepV K io F d v)
    (h : RG K R' ((Mir.setV o i d S).bind g) io F H Q E) : ∃ p xs k j, vo = .ref p ∧ vi = .int k ∧ H p = some (.lst xs) ∧ ixN xs.length k = some j ∧ ∃ S' F', Nxt io F H io F' (upd H p (.lst (xs.set j v))) ∧ Sta K io F' S' (upd H p (.lst (xs.set j v))) ∧ RG K R' (g () S') io F' (upd H p (.lst (xs.set j v))) Q E := by
  unfold Mir.setV at h
  split at h
  · rename_i k j
    obtain ⟨a, ha, rfl⟩ := ro
    have ri : vi = .int j := ri
    subst ri
    cases hk : S[k]? with
    | none => rw [hk] at h; exact h.elim
    | some c =>
      rw [hk] at h
      cases c with
      | lst xs0 =>
        dsimp only at h
        have q : ((Mir.frz d S).bind fun z S1 => (match S1[k]? with
          | some (.lst xs) => (match ixN xs.length j with
            | some n => Res.ok () (S1.set k (.lst (xs.set n z)))
            | none => .bad)
          | _ => .bad)).bind g = (Mir.frz d S).bind fun z S1 => (match S1[k]? with
          | some (.lst xs) => (match ixN xs.length j with
            | some n => Res.ok () (S1.set k (.lst (xs.set n z)))
            | none => .bad)
          | _ => .bad).bind g := by cases Mir.frz d S <;> rfl
        rw [q] at h
        obtain ⟨z, S1, F1, n1, s1, rp, hz, h1⟩ := st.frz rv h
        cases hk1 : S1[k]? with
        | none => rw [hk1] at h1; exact h1.elim
        | some c1 =>
          rw [hk1] at h1
          cases c1 with
          | lst xs =>
            dsimp only at h1
            cases hn : ixN xs.length j with
            | none => rw [hn] at h1; exact h1.elim
            | some n =>
              rw [hn] at h1
              obtain ⟨b, us, hb, hF, hH, hr⟩ := s1.cel k _ hk1
              rw [ha] at hb; cases hb
              obtain ⟨s2, n2⟩ := s1.wlst hk1 (fun _ z => nomatch z) (fun z => nomatch z) (fun _ z => nomatch z) ha (hr.set n rp)
              exact ⟨a, us, j, n, rfl, rfl, hH, by rw [hr.length]; exact hn, _, F1, n1.trans n2, s2, RG.step n2 h1⟩
          | _ => exact h1.elim
      | lsv xs =>
        dsimp only at h
        cases hn : ixN xs.length j with
        | none => rw [hn] at h; exact h.elim
        | some n =>
          rw [hn] at h
          obtain ⟨b, us, hb, hF, hH, hr, hlt⟩ := st.cel k _ hk
          rw [ha] at hb; cases hb
          have key : ∀ (hj : ∀ j, d = .c j → j < k), RG K R' ((Res.ok () (S.set k (.lsv (xs.set n d)))).bind g) io F H Q E → ∃ S' F', Nxt io F H io F' (upd H a (.lst (us.set n v))) ∧ Sta K io F' S' (upd H a (.lst (us.set n v))) ∧ RG K R' (g () S') io F' (upd H a (.lst (us.set n v))) Q E := fun hj h => by
            obtain ⟨s2, n2⟩ := st.wlsv hk (fun _ z => nomatch z) (fun z => nomatch z) (fun _ z => nomatch z) ha (hr.set n rv) (fun j hm => by
              rcases List.mem_or_eq_of_mem_set hm with z | z
              · exact hlt j z
              · exact hj j z.symm)
            exact ⟨_, F, n2, s2, RG.step n2 h⟩
          refine ⟨a, us, j, n, rfl, rfl, hH, by rw [hr.length]; exact hn, ?_⟩
          cases d with
          | p x => exact key (fun j z => nomatch z) h
          | c m =>
            dsimp only at h
            by_cases q2 : m < k
            · rw [if_pos q2] at h
              exact key (fun i z => by cases z; exact q2) h
            · rw [if_neg q2] at h; exact h.elim
      | _ => exact h.elim
  · exact h.elim
theorem og_sub (ho : OE X W0 o mo) (hi : OE X W0 a ma)
    (hs : ∀ v, assign (.Subscript o a pos) X.env v = (do
      let ov ← holding [v] (eval o X.env)
      let iv ← holding [v, ov] (eval a X.env)
      standAt pos
      holding [v, ov, iv] (setItem ov iv v)
      release [v, ov, iv] []) := by intro _; rfl) : OG X W0 (.Subscript o a pos) [] (gSubM mo ma) := by
  obtain ⟨to, po, ho⟩ := ho
  obtain ⟨ti, pi, hi⟩ := hi
  refine ⟨_, pg_sub po pi set_list hs, fun d v ρ S io F σ H Q st en rv h => ?_⟩
  refine ho ρ S io F σ H _ st en (RG.nox h fun d1 S1 io1 F1 H1 v1 e1 n1 s1 r1 h1 => ?_)
  refine hi ρ S1 io1 F1 σ H1 _ s1 (en.nxt n1) (RG.nox h1 fun d2 S2 io2 F2 H2 v2 e2 n2 s2 r2 h2 => ?_)
  obtain ⟨p, xs, k, j, e3, e4, hp, hj, S3, F3, n3, s3, h3⟩ := s2.setV (r1.mono n2.han n2.fr) r2 (rv.mono (n1.trans n2).han (n1.trans n2).fr) h2
  exact ⟨p, xs, k, j, e3, e4, hp, hj, h3 io2 F3 _ σ Nxt.refl s3 ⟨en.nxt ((n1.trans n2).trans n3), agree_refl⟩⟩
end
end Mir

namespace Mir
open PySem L2
structure RoomG (k : Nat) (A : Around) : Prop where
  r : Room k A
  gd : A.guards = some []
theorem RoomG.mono {j k : Nat} {A : Around} (r : RoomG k A) (h : j ≤ k) : RoomG j A := ⟨r.r.mono h, r.gd⟩
theorem RoomG.deeper {k : Nat} {A : Around} (r : RoomG (k + 1) A) (env : PySem.Env) : RoomG k (A.deeper env) := ⟨r.r.deeper env, r.gd⟩
theorem RoomG.in1 {k : Nat} {A : Around} (r : RoomG (k + 1) A) : RoomG k A.in1 := ⟨r.r.in1, r.gd⟩
theorem make_guards {A : Around} {C : Addr} {us : List Value} {kw : List (Str × Value)} (h : A.guards = some []) : (A.under (.builtin "type.__call__" ⟨.ref C :: us, kw⟩)).guards = some [] := by
  have e : (Code.builtin "type.__call__" ⟨.ref C :: us, kw⟩).guards = [] := by
    unfold Code.guards
    rw [if_neg]
    show ¬ (guardIds.contains "type.__call__" = true)
    decide +kernel
  show pushGuards (Code.builtin "type.__call__" ⟨.ref C :: us, kw⟩).guards A.guards = some []
  rw [e, h]
  rfl
theorem RoomG.make {k : Nat} {A : Around} (r : RoomG (k + 1) A) (C : Addr) (us : List Value) (kw : List (Str × Value)) : RoomG k (A.under (.builtin "type.__call__" ⟨.ref C :: us, kw⟩)) := ⟨r.r.make C us kw, make_guards r.gd⟩
structure FnG (P : Program) (w : World) (K : PySem.W.Frag) (mg : Str → Option Value) (base : Heap) (k : Nat) (f : Addr) (fd : FuncData) (ps : List Str) (sp : Sp) : Prop where
  len : ∀ vs H Q E, sp vs H Q E → vs.length = ps.length
  run : ∀ (A : Around) (outer : List PySem.Env) (s : Shared) (H : Hp) (args : Args) (us : List Value) (vs : List V) (Q : VK) (E : XK), RoomG k A → Env0 P w K mg base A outer s H → BindsTo s fd args (ps.zip us) → Vals vs us → sp vs H Q E →
    codeAny (model P w) A (.call (.ref f) args) (CR (L2.CX P w) outer P w H s Q E) s
theorem FnG.mono {P : Program} {w : World} {K : PySem.W.Frag} {mg : Str → Option Value} {base : Heap} {j k : Nat} {f : Addr} {fd : FuncData} {ps : List Str} {sp : Sp} (F : FnG P w K mg base j f fd ps sp) (h : j ≤ k) : FnG P w K mg base k f fd ps sp :=
  ⟨F.len, fun A outer s H args us vs Q E hr => F.run A outer s H args us vs Q E (hr.mono h)⟩
theorem fnG_ofC {P : Program} {w : World} {K : PySem.W.Frag} {mg : Str → Option Value} {base : Heap} {x qual : Str} {params : Arguments} {body : List Stmt} {scope : Scope} {dvs : List V} {kws : List (Str × V)} {f : Addr} {fd : FuncData} {N ps : List Str} {k : Nat} {sp : Sp}
    (F : FunD K x qual params body scope dvs kws f fd) (S : FnScope N ps scope) (len : ∀ vs H Q E, sp vs H Q E → vs.length = ps.length)
    (hbody : ∀ (cdv : Value) (A : Around) (outer : List PySem.Env) (s : Shared) (H : Hp) (vs : List V) (Q : VK) (E : XK), fd.code = cdv → RoomG k (A.deeper (PyProof.Rows.envOfC qual scope s.heap.objs.size f cdv)) → sp vs H Q E →
      ∃ t, PSs (cxOf (L2.CX P w) P w K mg base N qual scope f cdv A outer s H E) body t ∧ t { nx := fun _ H' => Q .non H', rt := Q } (L2.start N vs) H) : FnG P w K mg base (k + 1) f fd ps sp := by
  obtain ⟨oc, od, dV, kV, doc, pm, an, cdv, ct, osl, rfl, lk, hcd, _, _⟩ := F.ex
  refine ⟨len, fun A outer s H args us vs Q E hr e0 hb r hsp => ?_⟩
  have KX : K.In s.heap := e0.mod.kin.keeps fun b o e => (e0.bs b o e).1
  have lim : s.heap.NoLimit := e0.mod.nolimit.keeps fun b o e => (e0.bs b o e).1
  refine codeAny_call_function hr.r.depth (KX _ _ lk) rfl S.co S.gen rfl (PySem.W.codeRec_of KX hcd) (hb _ _ _ _ ?_)
  refine wpAny_newFunctionEnv_cells S.kind (fun y hy => ?_) fun env he s1 x => ?_
  · rcases S.par y.1 (List.of_mem_zip hy).1 with q | q
    · exact .inl q
    · exact .inr ⟨q, PySem.W.cellsFrom_some _ _ _ (.inl q)⟩
  · subst he
    obtain ⟨t, ht, hq⟩ := hbody cdv A outer s H vs Q E rfl (hr.deeper _) hsp
    refine ⟨lim.keeps x.toInCall.keep, codeAny_func ?_⟩
    refine wpAny_mono (ht.run [] s1 (L2.start N vs) H _ (inv_start S hr.r.hd e0 (len _ _ _ _ hsp) r x) hq) (fun fl s' hs => ?_) fun e s' hs => hs
    cases fl with
    | ret u =>
      obtain ⟨v, σ', H', J, rv, q⟩ := hs
      exact ⟨v, H', J.os, J.bare, J.base, J.hok, rv, q⟩
    | next =>
      obtain ⟨σ', H', J, q⟩ := hs
      exact ⟨.non, H', J.os, J.bare, J.base, J.hok, rfl, q⟩
    | brk =>
      obtain ⟨_, _, _, q⟩ := hs
      exact q.elim
    | cont =>
      obtain ⟨_, _, _, q⟩ := hs
      exact q.elim
theorem fnG_of {P : Program} {w : World} {K : PySem.W.Frag} {mg : Str → Option Value} {base : Heap} {x qual : Str} {params : Arguments} {body : List Stmt} {scope : Scope} {dvs : List V} {kws : List (Str × V)} {f : Addr} {fd : FuncData} {N ps : List Str} {k : Nat} {sp : Sp}
    (F : FunD K x qual params body scope dvs kws f fd) (S : FnScope N ps scope) (len : ∀ vs H Q E, sp vs H Q E → vs.length = ps.length)
    (hbody : ∀ (cdv : Value) (A : Around) (outer : List PySem.Env) (s : Shared) (H : Hp) (vs : List V) (Q : VK) (E : XK), RoomG k (A.deeper (PyProof.Rows.envOfC qual scope s.heap.objs.size f cdv)) → sp vs H Q E →
      ∃ t, PSs (cxOf (L2.CX P w) P w K mg base N qual scope f cdv A outer s H E) body t ∧ t { nx := fun _ H' => Q .non H', rt := Q } (L2.start N vs) H) : FnG P w K mg base (k + 1) f fd ps sp := fnG_ofC F S len fun cdv A outer s H vs Q E _ => hbody cdv A outer s H vs Q E
theorem run_fnG {X : Cx} {k : Nat} {f : Addr} {fd : FuncData} {ps : List Str} {sp : Sp} {E : St → XK} {pins : List (Addr × Obj)} {σ : St} {H : Hp} {s : Shared} {Q : VK} {us : List Value} {vs : List V} (F : FnG X.prog X.w X.K X.mg X.base k f fd ps sp) (hr : RoomG k X.A) (hb : Binds X.K fd ps [])
    (hx : PassesAt (L2.CX X.prog X.w) X σ (E σ)) (I : Inv X pins σ H s) (r : Vals vs us) (h : sp vs H Q (E σ)) : wpAny (model X.prog X.w) X.A (call (.ref f) us) (EP X pins σ Q) X.xe s := by
  have hl : us.length = ps.length := by rw [← r.length]; exact F.len _ _ _ _ h
  have b := hb s us I.kIn (by rw [List.append_nil]; exact hl)
  rw [List.append_nil] at b
  refine wpAny_call (codeAny_mono (F.run X.A X.stack s H ⟨us, []⟩ us vs Q (E σ) hr I.env0 b r h) fun r s' hq => ?_)
  match r, hq with
  | .error e, hq => exact hx pins H s e s' I hq
  | .ok (.ret u), hq => exact I.after hq
  | .ok .next, hq => exact hq.elim
  | .ok .brk, hq => exact hq.elim
  | .ok .cont, hq => exact hq.elim
abbrev MF := List Vl → Sto → Res Vl
def spM (K : PySem.W.Frag) (m : MF) : Sp := fun vs H Q E => ∃ io F S ds, Sta K io F S H ∧ RepVs K io F ds vs ∧ RG K (RepA K) (m ds S) io F H Q E
def retV (n : Nat) (d : Vl) (S : Sto) : Res Vl := match d with
  | .p x => .ok (.p x) (S.take n)
  | .c j => if j < n then .ok (.c j) (S.take n) else (frz (.c j) S).bind fun y S2 => .ok (.p y) (S2.take n)
def endF (n : Nat) (r : RF) : Res Vl := match r with
  | .ok (.rt d) S => retV n d S
  | .ok (.nx _) S => .ok (.p .non) (S.take n)
  | .ok (.xc _ c x) S => .exc c x (S.take n)
  | _ => .bad
def mkF (n k : Nat) (body : MS) : MF := fun ds S => if ds.length = n then endF S.length (body (ds.map some ++ List.replicate k none) S) else .bad
def endK (n : Nat) (r : RF) : Res Vl := match r with
  | .ok (.rt (.c j)) S => if j < n then .bad else (match S[j]? with
    | some (.lst xs) => .ok (.c n) (S.take n ++ [.lst xs])
    | _ => .bad)
  | .ok (.xc _ c x) S => .exc c x (S.take n)
  | _ => .bad
def mkK (n k : Nat) (body : MS) : MF := fun ds S => if ds.length = n then endK S.length (body (ds.map some ++ List.replicate k none) S) else .bad
section
variable {K : PySem.W.Frag} {io io1 : Io} {F F1 H H1 : Hp} {S S1 : Sto} {Q : VK} {E : XK}
theorem ret_ok (hn : io.length = S.length) (nx : Nxt io F H io1 F1 H1) (st : Sta K io1 F1 S1 H1) {d : Vl} {v : V} (r : RepV K io1 F1 d v) (h : RG K (RepA K) (retV S.length d S1) io F H Q E) : Q v H1 := by
  cases d with
  | p x => exact h (io1.take S.length) F1 H1 v (nx.cut hn) (st.cut _) r
  | c j =>
    unfold retV at h
    dsimp only at h
    by_cases hj : j < S.length
    · rw [if_pos hj] at h
      exact h (io1.take S.length) F1 H1 v (nx.cut hn) (st.cut _) (r.cut fun i e => by cases e; exact hj)
    · rw [if_neg hj] at h
      obtain ⟨y, S2, F2, n2, s2, rp, hz, h2⟩ := st.frz r (RG.step nx h)
      rw [hz] at h
      exact h (io1.take S.length) F2 H1 v ((nx.trans n2).cut hn) (s2.cut _) rp
theorem keep_ok (hn : io.length = S.length) (nx : Nxt io F H io1 F1 H1) (st : Sta K io1 F1 S1 H1) {d : Vl} {v : V} (r : RepV K io1 F1 d v) (h : RG K (RepA K) (endK S.length (.ok (.rt d) S1)) io F H Q E) : Q v H1 := by
  cases d with
  | p x => exact h.elim
  | c j =>
    unfold endK at h
    dsimp only at h
    by_cases hj : j < S.length
    · rw [if_pos hj] at h; exact h.elim
    · rw [if_neg hj] at h
      split at h
      · rename_i xs hk
        obtain ⟨a, ha, rfl⟩ := r
        obtain ⟨b, vs, hb, hF, hH, hr⟩ := st.cel j _ hk
        rw [ha] at hb; cases hb
        have s2 := st.cut S.length
        have hl : (io1.take S.length).length = S.length := by
          rw [List.length_take]
          have : j < io1.length := (List.getElem?_eq_some_iff.mp ha).1
          omega
        have hl2 : (S1.take S.length).length = S.length := by rw [← s2.len]; exact hl
        have hp : ∀ k : Nat, (io1.take S.length)[k]? ≠ some (some a) := fun k e => by
          rw [List.getElem?_take] at e
          split at e
          · have := st.inj k j a e ha
            omega
          · cases e
        have hi : (io1.take S.length ++ [some a])[S.length]? = some (some a) := by
          rw [List.getElem?_append_right (by rw [hl]; exact Nat.le_refl _), hl]
          simp
        obtain ⟨s3, n3⟩ := s2.lay hp hF hH (c := .lst xs) ⟨a, vs, by rw [hl2]; exact hi, hF, hH, hr⟩
        refine h (io1.take S.length ++ [some a]) F1 H1 (.ref a) ?_ s3 ⟨a, hi, rfl⟩
        have nc := nx.cut hn
        refine ⟨fun k x e => n3 k x (nc.han k x e), nc.fr, nc.out, fun k x e => ?_, nc.stay, nc.nf⟩
        rw [List.getElem?_append] at e
        split at e
        · exact nc.new k x e
        · rename_i hk2
          have : k - (io1.take S.length).length = 0 := by
            have := (List.getElem?_eq_some_iff.mp e).1
            simp only [List.length_cons, List.length_nil] at this
            omega
          rw [this] at e
          have e : a = x := by simpa using e
          subst e
          rcases nx.new j a ha with z | z
          · have := (List.getElem?_eq_some_iff.mp z).1
            rw [hn] at this
            exact absurd this hj
          · exact .inr z
      · exact h.elim
end
section
variable {P : Program} {w : World} {K : PySem.W.Frag} {mg : Str → Option Value} {base : Heap} {x qual : Str} {params : Arguments} {body : List Stmt} {scope : Scope} {dvs : List V} {kws : List (Str × V)} {f : Addr} {fd : FuncData} {N ps : List Str} {k nl : Nat} {m : MS}
theorem spM_len {en : Nat → RF → Res Vl} {n k : Nat} {m : MS} {vs : List V} {H : Hp} {Q : VK} {E : XK} (h : spM K (fun ds S => if ds.length = n then en S.length (m (ds.map some ++ List.replicate k none) S) else .bad) vs H Q E) : vs.length = n := by
  obtain ⟨io, F, S, ds, st, r, h⟩ := h
  by_cases q : ds.length = n
  · rw [r.length, q]
  · dsimp only at h
    rw [if_neg q] at h
    exact h.elim
theorem fn_okC (F : FunD K x qual params body scope dvs kws f fd) (sc : FnScope N ps scope) (hN : N.length = ps.length + nl)
    (hb : ∀ (cdv : Value) (A : Around) (outer : List PySem.Env) (s : Shared) (H : Hp) (E : XK), fd.code = cdv → RoomG k (A.deeper (PyProof.Rows.envOfC qual scope s.heap.objs.size f cdv)) → OSs (cxOf (L2.CX P w) P w K mg base N qual scope f cdv A outer s H E) (fun c d _ H' => E c d H') body m) :
    FnG P w K mg base (k + 1) f fd ps (spM K (mkF ps.length nl m)) := by
  refine fnG_ofC F sc (fun vs H Q E h => spM_len h) fun cdv A outer s H vs Q E hcd hr h => ?_
  obtain ⟨t, pt, ht⟩ := hb cdv A outer s H E hcd hr
  refine ⟨t, pt, ?_⟩
  have hl := spM_len h
  obtain ⟨io, FF, S, ds, st, r, h⟩ := h
  have hd : ds.length = ps.length := by rw [← r.length]; exact hl
  unfold mkF at h
  rw [if_pos hd] at h
  have e0 := Env.start (K := K) (io := io) (F := FF) nl r
  have hst : L2.start N vs = vs.map some ++ List.replicate nl none := by
    unfold L2.start
    rw [hN, hl]
    congr 2
    omega
  rw [hst]
  refine ht _ S io FF _ H _ st e0 ?_
  show RS K (m (ds.map some ++ List.replicate nl none) S) io FF H { nx := fun _ H' => Q .non H', rt := Q } (fun c d _ H' => E c d H')
  cases q : m (ds.map some ++ List.replicate nl none) S with
  | bad => rw [q] at h; exact h.elim
  | ok fl S1 =>
    rw [q] at h
    cases fl with
    | nx ρ => exact fun io1 F1 H1 σ1 nx s1 en1 => h (io1.take S.length) F1 H1 .non (nx.cut st.len) (s1.cut _) rfl
    | rt d => exact fun io1 F1 H1 v nx s1 r1 => ret_ok st.len nx s1 r1 h
    | bk ρ => exact h.elim
    | ct ρ => exact h.elim
    | xc ρ c x => exact fun io1 F1 H1 d σ1 nx s1 en1 xr => h (io1.take S.length) F1 H1 d (nx.cut st.len) (s1.cut _) xr
theorem fn_ok (F : FunD K x qual params body scope dvs kws f fd) (sc : FnScope N ps scope) (hN : N.length = ps.length + nl)
    (hb : ∀ (cdv : Value) (A : Around) (outer : List PySem.Env) (s : Shared) (H : Hp) (E : XK), RoomG k (A.deeper (PyProof.Rows.envOfC qual scope s.heap.objs.size f cdv)) → OSs (cxOf (L2.CX P w) P w K mg base N qual scope f cdv A outer s H E) (fun c d _ H' => E c d H') body m) :
    FnG P w K mg base (k + 1) f fd ps (spM K (mkF ps.length nl m)) := fn_okC F sc hN fun cdv A outer s H E _ => hb cdv A outer s H E
theorem fn_okK (F : FunD K x qual params body scope dvs kws f fd) (sc : FnScope N ps scope) (hN : N.length = ps.length + nl)
    (hb : ∀ (cdv : Value) (A : Around) (outer : List PySem.Env) (s : Shared) (H : Hp) (E : XK), RoomG k (A.deeper (PyProof.Rows.envOfC qual scope s.heap.objs.size f cdv)) → OSs (cxOf (L2.CX P w) P w K mg base N qual scope f cdv A outer s H E) (fun c d _ H' => E c d H') body m) :
    FnG P w K mg base (k + 1) f fd ps (spM K (mkK ps.length nl m)) := by
  refine fnG_of F sc (fun vs H Q E h => spM_len h) fun cdv A outer s H vs Q E hr h => ?_
  obtain ⟨t, pt, ht⟩ := hb cdv A outer s H E hr
  refine ⟨t, pt, ?_⟩
  have hl := spM_len h
  obtain ⟨io, FF, S, ds, st, r, h⟩ := h
  have hd : ds.length = ps.length := by rw [← r.length]; exact hl
  unfold mkK at h
  rw [if_pos hd] at h
  have e0 := Env.start (K := K) (io := io) (F := FF) nl r
  have hst : L2.start N vs = vs.map some ++ List.replicate nl none := by
    unfold L2.start
    rw [hN, hl]
    congr 2
    omega
  rw [hst]
  refine ht _ S io FF _ H _ st e0 ?_
  show RS K (m (ds.map some ++ List.replicate nl none) S) io FF H { nx := fun _ H' => Q .non H', rt := Q } (fun c d _ H' => E c d H')
  cases q : m (ds.map some ++ List.replicate nl none) S with
  | bad => rw [q] at h; exact h.elim
  | ok fl S1 =>
    rw [q] at h
    cases fl with
    | nx ρ => exact h.elim
    | rt d => exact fun io1 F1 H1 v nx s1 r1 => keep_ok st.len nx s1 r1 h
    | bk ρ => exact h.elim
    | ct ρ => exact h.elim
    | xc ρ c x => exact fun io1 F1 H1 d σ1 nx s1 en1 xr => h (io1.take S.length) F1 H1 d (nx.cut st.len) (s1.cut _) xr
end
def HasPar (fd : FuncData) (params : Arguments) : Prop := ∃ (x qual : Str) (body : List Stmt) (scope : Scope) (kV doc pm : Value) (an : Option Addr) (cdv ct : Value), fd = PySem.W.fnOf x qual params body scope .none kV doc pm an cdv ct
def fdAt (K : PySem.W.Frag) (a : Addr) : Option FuncData := match K.lookup a with
  | some ⟨_, _, .func fd, _⟩ => some fd
  | _ => none
structure GF (P : Program) (w : World) (K : PySem.W.Frag) (mg : Str → Option Value) (base : Heap) (x : Str) (params : Arguments) (ps : List Str) (k : Nat) (m : MF) : Prop where
  gl : mg x = some (.ref (He.ga K x))
  kp : PySem.W.keepIn K (.ref (He.ga K x)) = true
  fn : ∃ fd, FnG P w K mg base k (He.ga K x) fd ps (spM K m) ∧ Binds K fd ps [] ∧ HasPar fd params ∧ fdAt K (He.ga K x) = some fd
theorem FunD.hasPar {K : PySem.W.Frag} {x qual : Str} {params : Arguments} {body : List Stmt} {scope : Scope} {kws : List (Str × V)} {f : Addr} {fd : FuncData} (F : FunD K x qual params body scope [] kws f fd) : HasPar fd params := by
  obtain ⟨oc, od, dV, kV, doc, pm, an, cdv, ct, osl, e, _, _, hd, _⟩ := F.ex
  rcases hd with ⟨_, rfl⟩ | ⟨z, _⟩
  · exact ⟨x, qual, body, scope, kV, doc, pm, an, cdv, ct, e⟩
  · exact absurd rfl z
theorem FunD.at_ {K : PySem.W.Frag} {x qual : Str} {params : Arguments} {body : List Stmt} {scope : Scope} {dvs : List V} {kws : List (Str × V)} {f : Addr} {fd : FuncData} (F : FunD K x qual params body scope dvs kws f fd) : fdAt K f = some fd := by
  obtain ⟨oc, od, dV, kV, doc, pm, an, cdv, ct, osl, e, lk, _⟩ := F.ex
  unfold fdAt
  rw [lk]
theorem takes0 {X : Cx} : Takes X W0 := fun u s' ⟨_, _, _, _, _, _, _, _, _, _, _, _, _, _, _, _, h⟩ => h.elim
def eFn (m : MF) (a : MA) : ME := fun ρ S => (a ρ S).bind m
section
variable {X : Cx} {W : WX} {e o : Expr} {es : List Expr} {mas : MA} {mo : ME} {x : Str} {p pos apos : Pos} {params : Arguments} {ps : List Str} {k j : Nat} {m : MF}
theorem oe_fn (G : GF X.prog X.w X.K X.mg X.base x params ps k m) (hr : RoomG j X.A) (hk : k ≤ j) (tk : Takes X W) (ha : OA X W (e :: es) mas) (hg : Gl X x := by rfl)
    (hdb : (x == ("__debug__" : Str)) = false := by decide) (he : starEach (e :: es) X.env = (false, eval e X.env) :: starEach es X.env := by rfl) (hpl : (backTo pos (starEach es X.env)).any (·.1) = false := by rfl) :
    OE X W (.Call (.Name x p) (e :: es) [] pos) (eFn m mas) := by
  obtain ⟨fd, F, hb, _⟩ := G.fn
  obtain ⟨t, q, ha⟩ := ha
  refine ⟨fun σ H Q => t σ H fun vs H1 => spM X.K m vs H1 Q (WE W σ), ⟨fun pins s σ H Q I h => ?_⟩, fun ρ S io F σ H Q st en h => ?_⟩
  · refine wpAny_Call_Name_kw (ld_glob I hg G.gl ?_ hdb)
    refine PySem.W.callWith_K (h₀ := X.base) I.ok.mod.kin G.kp (thn (q.run pos pins s σ H _ I h) fun us s1 ⟨vs, H1, I1, r, qq⟩ => ⟨I1.kIn, ?_⟩) he hpl
    exact run_fnG (E := WE W) F (hr.mono hk) hb (passAt tk σ) I1 r qq
  refine ha ρ S io F σ H _ st en (RG.bind h fun ds S1 io1 F1 H1 vs e1 n1 s1 r1 h1 => ?_)
  exact ⟨io1, F1, S1, ds, s1, r1, h1⟩
end
def permL {A : Type} (d : A) (pm : List Nat) (xs : List A) : List A := pm.map fun i => xs.getD i d
def KwTo (params : Arguments) (ps ks : List Str) (n : Nat) (pm : List Nat) : Prop := ∀ (x qual : Str) (body : List Stmt) (scope : Scope) (kV doc pmv : Value) (an : Option Addr) (cdv ct : Value) (us ws : List Value), us.length = n → ws.length = ks.length →
  bindArgs (PySem.W.fnOf x qual params body scope .none kV doc pmv an cdv ct) ⟨us, ks.zip ws⟩ = pure (ps.zip (permL .none pm (us ++ ws)))
theorem vals_perm {vs : List V} {us : List Value} (h : Vals vs us) : ∀ pm : List Nat, (∀ i ∈ pm, i < vs.length) → Vals (permL .non pm vs) (permL .none pm us)
  | [], _ => .nil
  | i :: pm, hi => by
    have hl := h.length
    have h0 := hi i List.mem_cons_self
    obtain ⟨u, hu, ru⟩ := h.get (show vs[i]? = some vs[i] by simp [h0])
    refine Paired.cons ?_ (vals_perm h pm fun j hj => hi j (List.mem_cons_of_mem _ hj))
    show RelV (vs.getD i .non) (us.getD i .none)
    rw [List.getD_eq_getElem?_getD, List.getD_eq_getElem?_getD, hu]
    simpa [h0] using ru
theorem RepVs.perm {K : PySem.W.Frag} {io : Io} {F : Hp} {ds : List Vl} {vs : List V} (h : RepVs K io F ds vs) : ∀ pm : List Nat, (∀ i ∈ pm, i < vs.length) → RepVs K io F (permL (.p .non) pm ds) (permL .non pm vs)
  | [], _ => rfl
  | i :: pm, hi => by
    have hl := h.length
    have h0 := hi i List.mem_cons_self
    obtain ⟨u, hu, ru⟩ := h.get (show ds[i]? = some (ds[i]'(by omega)) by simp)
    refine ⟨vs.getD i .non, _, rfl, ?_, RepVs.perm h pm fun j hj => hi j (List.mem_cons_of_mem _ hj)⟩
    show RepV K io F (ds.getD i (.p .non)) (vs.getD i .non)
    rw [List.getD_eq_getElem?_getD, List.getD_eq_getElem?_getD, hu]
    have : i < ds.length := by omega
    simpa [this] using ru
def OK_ (X : Cx) (W : WX) (kws : List Keyword) (m : MA) : Prop := ∃ t, PK X kws t ∧ ∀ (ρ : En) (S : Sto) (io : Io) (F : Hp) (σ : St) (H : Hp) (Q : List V → Hp → Prop), Sta X.K io F S H → Mir.Env X.K io F ρ σ →
  RG X.K (RepAs X.K) (m ρ S) io F H Q (fun c d H' => W c d σ H') → t σ H Q
section
variable {X : Cx} {W : WX} {e o : Expr} {es : List Expr} {mas mks : MA} {me mo : ME} {x : Str} {p pos apos kpos : Pos} {params : Arguments} {ps ks : List Str} {k j n : Nat} {m : MF} {kws : List Keyword} {nm : Option Str} {pm : List Nat}
theorem ok_nil : OK_ X W [] aNil := ⟨_, pk_nil, fun ρ S io F σ H Q st en h => RG.val (R := RepAs X.K) (d := []) (v := []) st rfl h⟩
theorem ok_cons (ha : OE X W e me) (hr : OK_ X W kws mas) : OK_ X W (⟨nm, e, kpos⟩ :: kws) (aCons me mas) := by
  obtain ⟨t, p, ha⟩ := ha
  obtain ⟨u, q, hr⟩ := hr
  refine ⟨_, pk_cons p q, fun ρ S io F σ H Q st en h => ?_⟩
  refine ha ρ S io F σ H _ st en (RG.bind h fun d S1 io1 F1 H1 v e1 n1 s1 r1 h1 => ?_)
  refine hr ρ S1 io1 F1 σ H1 _ s1 (en.nxt n1) (RG.bind h1 fun d2 S2 io2 F2 H2 v2 e2 n2 s2 r2 h2 => ?_)
  exact RG.val (R := RepAs X.K) (d := d :: d2) s2 ⟨v, v2, rfl, r1.mono n2.han n2.fr, r2⟩ h2
def eFnK (m : MF) (n : Nat) (kl : Nat) (pm : List Nat) (a b : MA) : ME := fun ρ S => (a ρ S).bind fun ds S1 => (b ρ S1).bind fun zs S2 => if ds.length = n ∧ zs.length = kl then m (permL (.p .non) pm (ds ++ zs)) S2 else .bad
theorem run_kw {pins : List (Addr × Obj)} {σ : St} {H : Hp} {s : Shared} {Q : VK} {f : Addr} {fd : FuncData} {us ws : List Value} {vs zs : List V} {sp : Sp} {E : St → XK} (F : FnG X.prog X.w X.K X.mg X.base k f fd ps sp) (hr : RoomG k X.A) (hp : HasPar fd params) (hb : KwTo params ps ks n pm) (hx : PassesAt (L2.CX X.prog X.w) X σ (E σ))
    (hpm : ∀ i ∈ pm, i < n + ks.length) (I : Inv X pins σ H s) (r : Vals vs us) (rz : Vals zs ws) (h1 : vs.length = n) (h2 : zs.length = ks.length) (h : sp (permL .non pm (vs ++ zs)) H Q (E σ)) : wpAny (model X.prog X.w) X.A (call (.ref f) us (ks.zip ws)) (EP X pins σ Q) X.xe s := by
  have r2 : Vals (permL .non pm (vs ++ zs)) (permL .none pm (us ++ ws)) := vals_perm (r.append rz) pm fun i hi => by rw [List.length_append, h1, h2]; exact hpm i hi
  obtain ⟨x, qual, body, scope, kV, doc, pmv, an, cdv, ct, rfl⟩ := hp
  refine wpAny_call (codeAny_mono (F.run X.A X.stack s H ⟨us, ks.zip ws⟩ (permL .none pm (us ++ ws)) (permL .non pm (vs ++ zs)) Q (E σ) hr I.env0 (.of_eq (hb x qual body scope kV doc pmv an cdv ct us ws (by rw [← r.length]; exact h1) (by rw [← rz.length]; exact h2))) r2 h) fun r s' hq => ?_)
  cases r with
  | error e => exact hx pins H s e s' I hq
  | ok fl =>
    cases fl with
    | ret u => exact I.after hq
    | next => exact False.elim hq
    | brk => exact False.elim hq
    | cont => exact False.elim hq
end
end Mir

namespace Mir
open PySem L2
def fldOf {A : Type} (f : Str) : List Str → List A → Option A
  | n :: ns, x :: xs => if f = n then some x else fldOf f ns xs
  | _, _ => none
def putN (f : Str) : List Str → List Str
  | [] => [f]
  | n :: ns => if n = f then n :: ns else n :: putN f ns
def putX {A : Type} (f : Str) (a : A) : List Str → List A → List A
  | n :: ns, x :: xs => if n = f then a :: xs else x :: putX f a ns xs
  | _, _ => [a]
section
variable {K : PySem.W.Frag} {io : Io} {F : Hp} {S : Sto} {H : Hp}
theorem lookup_cons' {B : Type} {f k : Str} {v : B} {r : List (Str × B)} : ((k, v) :: r).lookup f = if f = k then some v else r.lookup f := by
  show (match f == k with | true => some v | false => r.lookup f) = _
  by_cases h : f = k
  · subst h; rw [if_pos rfl, beq_self_eq_true]
  · rw [if_neg h, beq_eq_false_iff_ne.mpr h]
theorem fld_repL : ∀ {ns : List Str} {xs : List P} {gs : List (Str × V)} {f : Str} {x : P}, gs.map (·.1) = ns → RepL K F xs (gs.map (·.2)) → fldOf f ns xs = some x → ∃ v, gs.lookup f = some v ∧ Rep K F x v
  | [], xs, gs, f, x, h1, h2, e => by cases xs <;> cases e
  | n :: ns, [], gs, f, x, h1, h2, e => by cases e
  | n :: ns, y :: xs, [], f, x, h1, h2, e => by cases h1
  | n :: ns, y :: xs, (k, u) :: gs, f, x, h1, ⟨v, r, e1, r1, r2⟩, e => by
    cases h1
    cases e1
    have e : (if f = k then some y else fldOf f (gs.map (·.1)) xs) = some x := e
    rw [lookup_cons']
    by_cases q : f = k
    · rw [if_pos q] at e ⊢
      cases e
      exact ⟨_, rfl, r1⟩
    · rw [if_neg q] at e ⊢
      exact fld_repL rfl r2 e
theorem fld_repV : ∀ {ns : List Str} {xs : List Vl} {gs : List (Str × V)} {f : Str} {x : Vl}, gs.map (·.1) = ns → RepVs K io F xs (gs.map (·.2)) → fldOf f ns xs = some x → ∃ v, gs.lookup f = some v ∧ RepV K io F x v
  | [], xs, gs, f, x, h1, h2, e => by cases xs <;> cases e
  | n :: ns, [], gs, f, x, h1, h2, e => by cases e
  | n :: ns, y :: xs, [], f, x, h1, h2, e => by cases h1
  | n :: ns, y :: xs, (k, u) :: gs, f, x, h1, ⟨v, r, e1, r1, r2⟩, e => by
    cases h1
    cases e1
    have e : (if f = k then some y else fldOf f (gs.map (·.1)) xs) = some x := e
    rw [lookup_cons']
    by_cases q : f = k
    · rw [if_pos q] at e ⊢
      cases e
      exact ⟨_, rfl, r1⟩
    · rw [if_neg q] at e ⊢
      exact fld_repV rfl r2 e
theorem fld_none : ∀ {ns : List Str} {gs : List (Str × V)} {f : Str}, gs.map (·.1) = ns → f ∉ ns → gs.lookup f = none
  | [], [], f, h1, e => rfl
  | [], _ :: _, f, h1, e => by cases h1
  | n :: ns, [], f, h1, e => by cases h1
  | n :: ns, (k, u) :: gs, f, h1, e => by
    cases h1
    rw [lookup_cons', if_neg (fun z => e (by rw [z]; exact List.mem_cons_self))]
    exact fld_none rfl fun z => e (List.mem_cons_of_mem _ z)
theorem put_names : ∀ (gs : List (Str × V)) (f : Str) (v : V), (putF f v gs).map (·.1) = putN f (gs.map (·.1))
  | [], f, v => rfl
  | (k, u) :: gs, f, v => by
    show (if k = f then (k, v) :: gs else (k, u) :: putF f v gs).map (·.1) = if k = f then k :: gs.map (·.1) else k :: putN f (gs.map (·.1))
    by_cases q : k = f
    · rw [if_pos q, if_pos q]; rfl
    · rw [if_neg q, if_neg q]
      show k :: (putF f v gs).map (·.1) = _
      rw [put_names gs f v]
theorem put_vals {d : Vl} {v : V} (hd : RepV K io F d v) {f : Str} : ∀ {gs : List (Str × V)} {xs : List Vl}, RepVs K io F xs (gs.map (·.2)) → RepVs K io F (putX f d (gs.map (·.1)) xs) ((putF f v gs).map (·.2))
  | [], xs, h => by
    cases xs with
    | nil => exact ⟨v, [], rfl, hd, rfl⟩
    | cons x xs => obtain ⟨_, _, e, _⟩ := h; cases e
  | (k, u) :: gs, [], h => by cases h
  | (k, u) :: gs, x :: xs, ⟨w, r, e1, r1, r2⟩ => by
    cases e1
    show RepVs K io F (if k = f then d :: xs else x :: putX f d (gs.map (·.1)) xs) ((if k = f then (k, v) :: gs else (k, u) :: putF f v gs).map (·.2))
    by_cases q : k = f
    · rw [if_pos q, if_pos q]; exact ⟨v, _, rfl, hd, r2⟩
    · rw [if_neg q, if_neg q]; exact ⟨u, _, rfl, r1, put_vals hd r2⟩
theorem put_mem {d : Vl} {f : Str} {j : Nat} : ∀ {ns : List Str} {xs : List Vl}, Vl.c j ∈ putX f d ns xs → Vl.c j ∈ xs ∨ d = .c j
  | [], xs, h => by
    have h : Vl.c j ∈ [d] := by cases xs <;> exact h
    exact .inr (List.mem_singleton.mp h).symm
  | n :: ns, [], h => .inr (List.mem_singleton.mp h).symm
  | n :: ns, x :: xs, h => by
    have h : Vl.c j ∈ if n = f then d :: xs else x :: putX f d ns xs := h
    by_cases q : n = f
    · rw [if_pos q] at h
      rcases List.mem_cons.mp h with z | z
      · exact .inr z.symm
      · exact .inl (List.mem_cons_of_mem _ z)
    · rw [if_neg q] at h
      rcases List.mem_cons.mp h with z | z
      · exact .inl (by rw [z]; exact List.mem_cons_self)
      · rcases put_mem z with y | y
        · exact .inl (List.mem_cons_of_mem _ y)
        · exact .inr y
end
def fldV (c f : Str) (d : Vl) (S : Sto) : Res Vl := match d with
  | .p (.obj c' ns xs) => if c' = c then (match fldOf f ns xs with
    | some x => .ok (.p x) S
    | none => .bad) else .bad
  | .c k => (match S[k]? with
    | some (.ins c' ns xs) => if c' = c then (match fldOf f ns xs with
      | some x => .ok x S
      | none => .bad) else .bad
    | _ => .bad)
  | _ => .bad
def eFld (c f : Str) (mo : ME) : ME := fun ρ S => (mo ρ S).bind fun d S1 => fldV c f (nv S1 d) S1
section
variable {X : Cx} {W : WX} {a b e o : Expr} {ma mb mo : ME} {pos apos : Pos} {c f : Str}
theorem oe_fld (hc : Cls X.K (He.ga X.K c)) (hn : NoAttr X.K (He.ga X.K c) f) (ho : OE X W o mo) (hb : attributeBase o f X.env (eval o X.env) = eval o X.env := by rfl) : OE X W (.Attribute o f pos) (eFld c f mo) := by
  obtain ⟨t, p, ho⟩ := ho
  refine ⟨_, pe_fld p hb, fun ρ S io F σ H Q st en h => ?_⟩
  refine ho ρ S io F σ H _ st en (RG.bind h fun d S1 io1 F1 H1 v e1 n1 s1 r1 h1 => ?_)
  replace r1 := s1.nv r1
  generalize nv S1 d = d at r1 h1
  cases d with
  | p x =>
    cases x with
    | obj c' ns xs =>
      replace h1 : RG X.K (RepA X.K) (if c' = c then (match fldOf f ns xs with
        | some x => .ok (.p x) S1
        | none => .bad) else .bad) io1 F1 H1 Q (fun c d H' => W c d σ H') := h1
      by_cases q : c' = c
      · rw [if_pos q] at h1
        subst q
        cases hx : fldOf f ns xs with
        | none => rw [hx] at h1; exact h1.elim
        | some x =>
          rw [hx] at h1
          obtain ⟨a, dx, gs, rfl, ha, hg, hr⟩ := r1
          obtain ⟨v, hv, rv⟩ := fld_repL hg hr hx
          exact ⟨a, _, dx, gs, v, rfl, s1.sub _ _ ha, hc, hn, hv, h1 io1 F1 H1 v Nxt.refl s1 rv⟩
      · rw [if_neg q] at h1; exact h1.elim
    | _ => exact h1.elim
  | c k =>
    replace h1 : RG X.K (RepA X.K) (match S1[k]? with
      | some (.ins c' ns xs) => if c' = c then (match fldOf f ns xs with
        | some x => .ok x S1
        | none => .bad) else .bad
      | _ => .bad) io1 F1 H1 Q (fun c d H' => W c d σ H') := h1
    cases hk : S1[k]? with
    | none => rw [hk] at h1; exact h1.elim
    | some cc =>
      rw [hk] at h1
      cases cc with
      | ins c' ns xs =>
        dsimp only at h1
        by_cases q : c' = c
        · rw [if_pos q] at h1
          subst q
          cases hx : fldOf f ns xs with
          | none => rw [hx] at h1; exact h1.elim
          | some x =>
            rw [hx] at h1
            obtain ⟨a, ha, rfl⟩ := r1
            obtain ⟨b, dx, gs, hb, hF, hH, hg, hr, _⟩ := s1.cel k _ hk
            rw [ha] at hb; cases hb
            obtain ⟨v, hv, rv⟩ := fld_repV hg hr hx
            exact ⟨a, _, dx, gs, v, rfl, hH, hc, hn, hv, h1 io1 F1 H1 v Nxt.refl s1 rv⟩
        · rw [if_neg q] at h1; exact h1.elim
      | _ => exact h1.elim
def putC (c f : Str) (k : Nat) (d : Vl) (S : Sto) : Res Unit := match S[k]? with
  | some (.ins c' ns xs) => if c' = c ∧ ns.length < 1000 then .ok () (S.set k (.ins c' (putN f ns) (putX f d ns xs))) else .bad
  | _ => .bad
def fSet (c f : Str) (o v : Vl) (S : Sto) : Res Unit := match o with
  | .c k => (match v with
    | .p x => putC c f k (.p x) S
    | .c j => if j < k then putC c f k (.c j) S else (frz (.c j) S).bind fun x S1 => putC c f k (.p x) S1)
  | _ => .bad
def gFldM (c f : Str) (o : ME) : MG := fun d ρ S => (o ρ S).nox.bind fun a S1 => (fSet c f a d S1).bind fun _ S2 => .ok ρ S2
theorem Sta.putC {K : PySem.W.Frag} {io : Io} {F : Hp} {S : Sto} {H : Hp} {k : Nat} {a : Addr} {d : Vl} {v : V} {C D : Type} {R' : Io → Hp → C → D → Prop} {g : Unit → Sto → Res C} {Q : D → Hp → Prop} {E : XK} (st : Sta K io F S H) (ha : io[k]? = some (some a)) (rv : RepV K io F d v) (hj : ∀ j, d = .c j → j < k)
    (h : RG K R' ((Mir.putC c f k d S).bind g) io F H Q E) : ∃ dx fs, H a = some (.ins (He.ga K c) dx fs) ∧ fs.length < 1000 ∧ ∃ S', Nxt io F H io F (upd H a (.ins (He.ga K c) dx (putF f v fs))) ∧ Sta K io F S' (upd H a (.ins (He.ga K c) dx (putF f v fs))) ∧ RG K R' (g () S') io F (upd H a (.ins (He.ga K c) dx (putF f v fs))) Q E := by
  unfold Mir.putC at h
  cases hk : S[k]? with
  | none => rw [hk] at h; exact h.elim
  | some cc =>
    rw [hk] at h
    cases cc with
    | ins c' ns xs =>
      dsimp only at h
      by_cases q : c' = c ∧ ns.length < 1000
      · rw [if_pos q] at h
        obtain ⟨rfl, hl⟩ := q
        obtain ⟨b, dx, gs, hb, hF, hH, hg, hr, hlt⟩ := st.cel k _ hk
        rw [ha] at hb; cases hb
        subst hg
        rw [List.length_map] at hl
        obtain ⟨s2, n2⟩ := st.write (o := .ins (He.ga K c') dx (putF f v gs)) (c := .ins c' (putN f (gs.map (·.1))) (putX f d (gs.map (·.1)) xs)) ha hF ⟨a, dx, putF f v gs, ha, hF, upd_same, put_names gs f v, put_vals rv hr, fun j hm => by
          rcases put_mem hm with z | z
          · exact hlt j z
          · exact hj j z⟩
        exact ⟨dx, gs, hH, hl, _, n2, s2, RG.step n2 h⟩
      · rw [if_neg q] at h; exact h.elim
    | _ => exact h.elim
theorem Sta.fSet {K : PySem.W.Frag} {io : Io} {F : Hp} {S : Sto} {H : Hp} {o d : Vl} {vo v : V} {C D : Type} {R' : Io → Hp → C → D → Prop} {g : Unit → Sto → Res C} {Q : D → Hp → Prop} {E : XK} (st : Sta K io F S H) (ro : RepV K io F o vo) (rv : RepV K io F d v)
    (h : RG K R' ((Mir.fSet c f o d S).bind g) io F H Q E) : ∃ a dx fs, vo = .ref a ∧ H a = some (.ins (He.ga K c) dx fs) ∧ fs.length < 1000 ∧ ∃ S' F', Nxt io F H io F' (upd H a (.ins (He.ga K c) dx (putF f v fs))) ∧ Sta K io F' S' (upd H a (.ins (He.ga K c) dx (putF f v fs))) ∧ RG K R' (g () S') io F' (upd H a (.ins (He.ga K c) dx (putF f v fs))) Q E := by
  cases o with
  | p x => exact h.elim
  | c k =>
    obtain ⟨a, ha, rfl⟩ := ro
    unfold Mir.fSet at h
    dsimp only at h
    cases d with
    | p x =>
      obtain ⟨dx, fs, h1, h2, S', n2, s2, h3⟩ := st.putC ha rv (fun j z => nomatch z) h
      exact ⟨a, dx, fs, rfl, h1, h2, S', F, n2, s2, h3⟩
    | c j =>
      dsimp only at h
      by_cases q : j < k
      · rw [if_pos q] at h
        obtain ⟨dx, fs, h1, h2, S', n2, s2, h3⟩ := st.putC ha rv (fun i z => by cases z; exact q) h
        exact ⟨a, dx, fs, rfl, h1, h2, S', F, n2, s2, h3⟩
      · rw [if_neg q] at h
        have e : ((Mir.frz (.c j) S).bind fun x S1 => Mir.putC c f k (.p x) S1).bind g = (Mir.frz (.c j) S).bind fun x S1 => (Mir.putC c f k (.p x) S1).bind g := by cases Mir.frz (.c j) S <;> rfl
        rw [e] at h
        obtain ⟨x, S1, F1, n1, s1, rp, hz, h1⟩ := st.frz rv h
        obtain ⟨dx, fs, h1, h2, S', n2, s2, h3⟩ := s1.putC (d := .p x) ha rp (fun j z => nomatch z) h1
        exact ⟨a, dx, fs, rfl, h1, h2, S', F1, n1.trans n2, s2, h3⟩
def gFldT (K : PySem.W.Frag) (to : TE) (f : Str) : TG := fun v σ H Q => to σ H fun x H1 => ∃ a C dx fs, x = .ref a ∧ H1 a = some (.ins C dx fs) ∧ Cls K C ∧ NoAttr K C f ∧ fs.length < 1000 ∧ Q σ (upd H1 a (.ins C dx (putF f v fs)))
theorem pg_fld {to : TE} (ho : PE X o to) (ha : ∀ v, assign (.Attribute o f pos) X.env v = (do
      let ov ← holding [v] (eval o X.env)
      standAt pos.atName
      holding [v, ov] (setAttr ov f v)
      release [v, ov] []) := by intro _; rfl) : PG X (.Attribute o f pos) (gFldT X.K to f) := by
  refine ⟨fun pins s σ H v u Q I r h => ?_⟩
  rw [ha]
  refine wpAny_bind (wpAny_holding (thn (ho.run pins s σ H _ I h) fun ov s1 ⟨x, H1, I1, r1, a, C, dx, fs, e1, e2, hc, hn, hl, q1⟩ => ?_))
  subst e1
  obtain rfl : ov = Value.ref a := r1
  refine wpAny_bind (wpAny_standAt (wpAny_bind (wpAny_holding (setattr_ok I1 e2 hc hn hl r fun s2 I2 => ?_))))
  exact wpAny_release ⟨σ, _, I2, q1⟩
theorem og_fld (hc : Cls X.K (He.ga X.K c)) (hn : NoAttr X.K (He.ga X.K c) f) (ho : OE X W0 o mo) (ha : ∀ v, assign (.Attribute o f pos) X.env v = (do
      let ov ← holding [v] (eval o X.env)
      standAt pos.atName
      holding [v, ov] (setAttr ov f v)
      release [v, ov] []) := by intro _; rfl) : OG X W0 (.Attribute o f pos) [] (gFldM c f mo) := by
  obtain ⟨to, po, ho⟩ := ho
  refine ⟨_, pg_fld po ha, fun d v ρ S io F σ H Q st en rv h => ?_⟩
  refine ho ρ S io F σ H _ st en (RG.nox h fun d1 S1 io1 F1 H1 v1 e1 n1 s1 r1 h1 => ?_)
  obtain ⟨a, dx, fs, e2, e3, hl, S2, F2, n2, s2, h2⟩ := s1.fSet r1 (rv.mono n1.han n1.fr) h1
  exact ⟨a, _, dx, fs, e2, e3, hc, hn, hl, h2 io1 F2 _ σ Nxt.refl s2 ⟨en.nxt (n1.trans n2), agree_refl⟩⟩
end
structure GC (P : Program) (w : World) (K : PySem.W.Frag) (mg : Str → Option Value) (base : Heap) (x : Str) (params : Arguments) (ps : List Str) (k : Nat) (m : MF) : Prop where
  gl : mg x = some (.ref (He.ga K x))
  mkr : Mk K (He.ga K x) (He.ma K (He.ga K x) "__init__")
  fn : ∃ fd, FnG P w K mg base k (He.ma K (He.ga K x) "__init__") fd ps (spM K m) ∧ Binds K fd ps [] ∧ HasPar fd params
def endO (kp : Bool) (n : Nat) (r : Res Vl) : Res Vl := match r with
  | .ok (.p .non) S => (match kp with
    | true => .ok (.c n) S
    | false => (frz (.c n) S).bind fun y S1 => .ok (.p y) (S1.take n))
  | .exc c x S => .exc c x (S.take n)
  | _ => .bad
def mkO (kp : Bool) (c : Str) (m : MF) (ds : List Vl) (S : Sto) : Res Vl := endO kp S.length (m (.c S.length :: ds) (S ++ [.ins c [] []]))
section
variable {K : PySem.W.Frag} {io : Io} {F : Hp} {S : Sto} {H : Hp}
theorem Nxt.side {p : Addr} {o : HO} (hp : H p = none) : Nxt io F H io F (upd H p o) := by
  refine ⟨fun _ _ z => z, fun _ _ z => z, fun a o z _ => ?_, fun _ _ z => .inl z, fun a z => ?_, fun _ z => .inl z⟩
  · rw [upd_ne (ne_of_none z hp)]; exact z
  · by_cases q : a = p
    · subst q; exact hp
    · rw [upd_ne q] at z; exact z
theorem mkO_sp {kp : Bool} {c : Str} {m : MF} {ds : List Vl} {vs : List V} {Q : VK} {E : XK} (st : Sta K io F S H) (r : RepVs K io F ds vs) (h : RG K (RepA K) (mkO kp c m ds S) io F H Q E) (x dx : Addr) (hx : H x = none) (hd : H dx = none) (ne : dx ≠ x) :
    spM K m (.ref x :: vs) (upd (upd H dx (.own x)) x (.ins (He.ga K c) dx [])) (fun v H2 => v = .non ∧ Q (.ref x) H2) E := by
  have s1 := st.side (o := .own x) (st.notIn hd) (Same.free st.sub hd)
  have n1 : Nxt io F H io F (upd H dx (.own x)) := Nxt.side hd
  have hx1 : upd H dx (.own x) x = none := by rw [upd_ne (Ne.symm ne)]; exact hx
  have hi : (io ++ [some x])[S.length]? = some (some x) := by rw [← st.len]; simp
  have hF : F x = none := Same.free st.sub hx
  obtain ⟨s2, n2⟩ := s1.push (p := x) (o := .ins (He.ga K c) dx []) (c := .ins c [] []) hx1 ⟨x, dx, [], hi, hF, upd_same, rfl, rfl, fun j hm => by cases hm⟩
  have n12 := n1.trans n2
  refine ⟨io ++ [some x], F, S ++ [.ins c [] []], .c S.length :: ds, s2, ⟨_, _, rfl, ⟨x, hi, rfl⟩, r.mono n12.han n12.fr⟩, ?_⟩
  unfold mkO at h
  cases q : m (.c S.length :: ds) (S ++ [.ins c [] []]) with
  | bad => rw [q] at h; exact h.elim
  | exc c' d' S2 =>
    rw [q] at h
    exact fun io3 F3 H3 d n3 s3 xr => h (io3.take S.length) F3 H3 d ((n12.trans n3).cut st.len) (s3.cut _) xr
  | ok d S2 =>
    rw [q] at h
    intro io3 F3 H3 v n3 s3 rv
    cases d with
    | c k => exact h.elim
    | p y =>
      cases y with
      | non =>
        refine ⟨rv, ?_⟩
        cases kp with
        | true => exact h io3 F3 H3 (.ref x) (n12.trans n3) s3 ⟨x, n3.han _ _ hi, rfl⟩
        | false =>
          have h : RG K (RepA K) ((frz (.c S.length) S2).bind fun y S1 => .ok (.p y) (S1.take S.length)) io F H Q E := h
          obtain ⟨y, S4, F4, n4, s4, rp, hz, h4⟩ := s3.frz (d := .c S.length) (v := .ref x) ⟨x, n3.han _ _ hi, rfl⟩ (RG.step (n12.trans n3) h)
          rw [hz] at h
          exact h (io3.take S.length) F4 H3 (.ref x) (((n12.trans n3).trans n4).cut st.len) (s4.cut _) rp
      | _ => exact h.elim
end
def eMake (kp : Bool) (c : Str) (m : MF) (a : MA) : ME := fun ρ S => (a ρ S).bind fun ds S1 => mkO kp c m ds S1
section
variable {X : Cx} {W : WX} {e o : Expr} {es : List Expr} {mas mks : MA} {me mo : ME} {x f : Str} {p pos apos kpos : Pos} {params : Arguments} {ps ks : List Str} {k j n : Nat} {m : MF} {kws : List Keyword} {pm : List Nat} {kp : Bool}
theorem run_makeS {pins : List (Addr × Obj)} {σ : St} {H : Hp} {s : Shared} {Q : VK} {C f : Addr} {fd : FuncData} {sp : Sp} {E : St → XK} {us : List Value} {vs : List V} (M : Mk X.K C f) (F : FnG X.prog X.w X.K X.mg X.base k f fd ps sp) (hr : RoomG (k + 1) X.A) (hb : Binds X.K fd ps [])
    (hx : PassesAt (L2.CX X.prog X.w) X σ (E σ)) (I : Inv X pins σ H s) (r : Vals vs us)
    (h : ∀ x dx, H x = none → H dx = none → dx ≠ x → sp (.ref x :: vs) (upd (upd H dx (.own x)) x (.ins C dx [])) (fun v H2 => v = .non ∧ Q (.ref x) H2) (E σ)) :
    wpAny (model X.prog X.w) X.A (call (.ref C) us) (EP X pins σ Q) X.xe s := by
  have hq := h (s.heap.objs.size + 1) s.heap.objs.size (I.hok.fresh (Nat.le_succ _)) (I.hok.fresh (Nat.le_refl _)) (Nat.ne_of_lt (Nat.lt_succ_self _))
  have I2 := Inv.made (C := C) I
  have r2 : Vals (V.ref (s.heap.objs.size + 1) :: vs) (Value.ref (s.heap.objs.size + 1) :: us) := .cons rfl r
  have hl : (Value.ref (s.heap.objs.size + 1) :: us).length = ps.length := by
    have e := r2.length
    rw [F.len _ _ _ _ hq] at e
    exact e.symm
  have hb2 := hb { s with heap := (s.heap.push PySem.W.emptyDict).push (PySem.W.instObj C s.heap.objs.size) } (Value.ref (s.heap.objs.size + 1) :: us) I2.kIn (by rw [List.append_nil]; exact hl)
  rw [List.append_nil] at hb2
  refine wpAny_call (make_map (f := f) I.kIn M.makes M.init (beq_iff_eq.mp M.fn) (codeAny_mono (F.run _ X.stack _ _ ⟨Value.ref (s.heap.objs.size + 1) :: us, []⟩ (Value.ref (s.heap.objs.size + 1) :: us) _ _ (E σ) (hr.make C us [])
    (I2.env0.make C us []) hb2 r2 hq) fun r s' hq' => ?_))
  cases r with
  | error e => exact hx pins _ _ e s' I2 hq'
  | ok fl =>
    cases fl with
    | ret u =>
      obtain ⟨v, H', I3, rv, ev, q3⟩ := I2.after hq'
      subst ev
      exact ⟨rv, ⟨V.ref (s.heap.objs.size + 1), H', I3, rfl, q3⟩⟩
    | next => exact False.elim hq'
    | brk => exact False.elim hq'
    | cont => exact False.elim hq'
theorem oe_make (kp : Bool) (G : GC X.prog X.w X.K X.mg X.base x params ps k m) (hr : RoomG j X.A) (hk : k + 1 ≤ j) (tk : Takes X W) (ha : OA X W (e :: es) mas) (hg : Gl X x := by rfl)
    (hdb : (x == ("__debug__" : Str)) = false := by decide) (he : starEach (e :: es) X.env = (false, eval e X.env) :: starEach es X.env := by rfl) (hpl : (backTo pos (starEach es X.env)).any (·.1) = false := by rfl) :
    OE X W (.Call (.Name x p) (e :: es) [] pos) (eMake kp x m mas) := by
  obtain ⟨fd, F, hb, _⟩ := G.fn
  obtain ⟨t, q, ha⟩ := ha
  refine ⟨fun σ H Q => t σ H fun vs H1 => ∀ y dx, H1 y = none → H1 dx = none → dx ≠ y → spM X.K m (.ref y :: vs) (upd (upd H1 dx (.own y)) y (.ins (He.ga X.K x) dx [])) (fun v H2 => v = .non ∧ Q (.ref y) H2) (WE W σ), ⟨fun pins s σ H Q I h => ?_⟩, fun ρ S io F σ H Q st en h => ?_⟩
  · refine wpAny_Call_Name_kw (ld_glob I hg G.gl ?_ hdb)
    refine PySem.W.callWith_K (h₀ := X.base) I.ok.mod.kin G.mkr.kp (thn (q.run pos pins s σ H _ I h) fun us s1 ⟨vs, H1, I1, r, qq⟩ => ⟨I1.kIn, ?_⟩) he hpl
    exact run_makeS (E := WE W) G.mkr F (hr.mono hk) hb (passAt tk σ) I1 r qq
  · refine ha ρ S io F σ H _ st en (RG.bind h fun ds S1 io1 F1 H1 vs e1 n1 s1 r1 h1 => ?_)
    exact fun y dx hy hd ne => mkO_sp s1 r1 h1 y dx hy hd ne
structure GM (P : Program) (w : World) (K : PySem.W.Frag) (mg : Str → Option Value) (base : Heap) (x f : Str) (params : Arguments) (ps : List Str) (k : Nat) (m : MF) : Prop where
  cls : Cls K (He.ga K x)
  me : Meth K (He.ga K x) f (He.ma K (He.ga K x) f)
  fn : ∃ fd, FnG P w K mg base k (He.ma K (He.ga K x) f) fd ps (spM K m) ∧ Binds K fd ps [] ∧ HasPar fd params
def isO (c f : Str) (S : Sto) : Vl → Bool
  | .p (.obj c' ns _) => decide (c' = c) && decide (f ∉ ns)
  | .c k => (match S[k]? with
    | some (.ins c' ns _) => decide (c' = c) && decide (f ∉ ns)
    | _ => false)
  | _ => false
theorem Sta.isO {K : PySem.W.Frag} {io : Io} {F : Hp} {S : Sto} {H : Hp} {c f : Str} {d : Vl} {v : V} (st : Sta K io F S H) (r : RepV K io F d v) (h : Mir.isO c f S d = true) : ∃ a dx fs, v = .ref a ∧ H a = some (.ins (He.ga K c) dx fs) ∧ fs.lookup f = none := by
  cases d with
  | p x =>
    cases x with
    | obj c' ns xs =>
      have h : (decide (c' = c) && decide (f ∉ ns)) = true := h
      rw [Bool.and_eq_true, decide_eq_true_eq, decide_eq_true_eq] at h
      obtain ⟨rfl, hf⟩ := h
      obtain ⟨a, dx, gs, rfl, ha, hg, hr⟩ := r
      exact ⟨a, dx, gs, rfl, st.sub _ _ ha, fld_none hg hf⟩
    | _ => cases h
  | c k =>
    unfold Mir.isO at h
    dsimp only at h
    split at h
    · rename_i c' ns xs hk
      rw [Bool.and_eq_true, decide_eq_true_eq, decide_eq_true_eq] at h
      obtain ⟨rfl, hf⟩ := h
      obtain ⟨a, ha, rfl⟩ := r
      obtain ⟨b, dx, gs, hb, hF, hH, hg, hr, _⟩ := st.cel k _ hk
      rw [ha] at hb; cases hb
      exact ⟨a, dx, gs, rfl, hH, fld_none hg hf⟩
    · cases h
def eMeth (c f : Str) (m : MF) (o : ME) (a : MA) : ME := fun ρ S => (o ρ S).bind fun d S1 => if isO c f S1 (nv S1 d) then (a ρ S1).bind fun ds S2 => m (d :: ds) S2 else .bad
def eMethK (c f : Str) (m : MF) (n kl : Nat) (pm : List Nat) (o : ME) (a b : MA) : ME := fun ρ S => (o ρ S).bind fun d S1 => if isO c f S1 (nv S1 d) then (a ρ S1).bind fun ds S2 => (b ρ S2).bind fun zs S3 => if ds.length = n ∧ zs.length = kl then m (permL (.p .non) pm (d :: ds ++ zs)) S3 else .bad else .bad
theorem oe_meth {pl : Sem Bool} (G : GM X.prog X.w X.K X.mg X.base x f params ps k m) (hr : RoomG j X.A) (hk : k ≤ j) (tk : Takes X W) (ho : OE X W o mo) (ha : OA X W (e :: es) mas)
    (hst : starEach (e :: es) X.env = (false, eval e X.env) :: starEach es X.env := by rfl) (hpl : (backTo pos (starEach es X.env)).any (·.1) = false := by rfl)
    (ht : eval (.Call (.Attribute o f apos) (e :: es) [] pos) X.env = (do
      let ov ← eval o X.env
      standAt apos.atName
      let (f, first) ← holding [ov] (getMethod ov f pl)
      callWith pos f first (backTo pos (starEach (e :: es) X.env)) (backToKw pos (keywordEach [] X.env))) := by rfl) :
    OE X W (.Call (.Attribute o f apos) (e :: es) [] pos) (eMeth x f m mo mas) := by
  obtain ⟨fd, F, hb, _⟩ := G.fn
  obtain ⟨u, p, ho⟩ := ho
  obtain ⟨t, q, ha⟩ := ha
  refine ⟨fun σ H Q => u σ H fun y H1 => ∃ a dx fs, y = .ref a ∧ H1 a = some (.ins (He.ga X.K x) dx fs) ∧ fs.lookup f = none ∧ t σ H1 fun vs H2 => spM X.K m (y :: vs) H2 Q (WE W σ), ⟨fun pins s σ H Q I h => ?_⟩, fun ρ S io F σ H Q st en h => ?_⟩
  · refine PySem.W.methodCall_KW (pl := pl) (thn (p.run pins s σ H _ I h) fun v s1 ⟨y, H1, I1, rx, a, dx, fs, ex, ea, l, qq⟩ => ?_) ht
    subst ex
    obtain rfl : v = Value.ref a := rx
    refine getmeth_ok I1 ea G.cls G.me l ?_
    refine PySem.W.callWith_K (first := [.ref a]) (h₀ := X.base) I.ok.mod.kin G.me.kp (thn (q.run pos pins s1 σ H1 _ I1 qq) fun us s2 ⟨vs, H2, I2, r, q2⟩ => ⟨I2.kIn, ?_⟩) hst hpl
    exact run_fnG (E := WE W) (us := .ref a :: us) (vs := .ref a :: vs) F (hr.mono hk) hb (passAt tk σ) I2 (.cons rfl r) q2
  · refine ho ρ S io F σ H _ st en (RG.bind h fun d S1 io1 F1 H1 v e1 n1 s1 r1 h1 => ?_)
    by_cases hq : isO x f S1 (nv S1 d) = true
    · rw [if_pos hq] at h1
      obtain ⟨a, dx, fs, e2, e3, e4⟩ := s1.isO (s1.nv r1) hq
      refine ⟨a, dx, fs, e2, e3, e4, ?_⟩
      refine ha ρ S1 io1 F1 σ H1 _ s1 (en.nxt n1) (RG.bind h1 fun ds S2 io2 F2 H2 vs e5 n2 s2 r2 h2 => ?_)
      exact ⟨io2, F2, S2, d :: ds, s2, ⟨v, vs, rfl, r1.mono n2.han n2.fr, r2⟩, h2⟩
    · rw [if_neg hq] at h1; exact h1.elim
theorem oe_meth0 {pl : Sem Bool} (G : GM X.prog X.w X.K X.mg X.base x f params ps k m) (hr : RoomG j X.A) (hk : k ≤ j) (tk : Takes X W) (ho : OE X W o mo)
    (ht : eval (.Call (.Attribute o f apos) [] [] pos) X.env = (do
      let ov ← eval o X.env
      standAt apos.atName
      let (f, first) ← holding [ov] (getMethod ov f pl)
      callWith pos f first (backTo pos (starEach [] X.env)) (backToKw pos (keywordEach [] X.env))) := by rfl) :
    OE X W (.Call (.Attribute o f apos) [] [] pos) (eMeth x f m mo aNil) := by
  obtain ⟨fd, F, hb, _⟩ := G.fn
  obtain ⟨u, p, ho⟩ := ho
  refine ⟨fun σ H Q => u σ H fun y H1 => ∃ a dx fs, y = .ref a ∧ H1 a = some (.ins (He.ga X.K x) dx fs) ∧ fs.lookup f = none ∧ spM X.K m [y] H1 Q (WE W σ), ⟨fun pins s σ H Q I h => ?_⟩, fun ρ S io F σ H Q st en h => ?_⟩
  · refine PySem.W.methodCall_KW (pl := pl) (thn (p.run pins s σ H _ I h) fun v s1 ⟨y, H1, I1, rx, a, dx, fs, ex, ea, l, qq⟩ => ?_) ht
    subst ex
    obtain rfl : v = Value.ref a := rx
    refine getmeth_ok I1 ea G.cls G.me l ?_
    exact PySem.W.callWith_K0 (first := [.ref a]) I1.kIn G.me.kp (run_fnG (E := WE W) (us := [.ref a]) (vs := [.ref a]) F (hr.mono hk) hb (passAt tk σ) I1 (.cons rfl .nil) qq)
  · refine ho ρ S io F σ H _ st en (RG.bind h fun d S1 io1 F1 H1 v e1 n1 s1 r1 h1 => ?_)
    by_cases hq : isO x f S1 (nv S1 d) = true
    · rw [if_pos hq] at h1
      obtain ⟨a, dx, fs, e2, e3, e4⟩ := s1.isO (s1.nv r1) hq
      exact ⟨a, dx, fs, e2, e3, e4, io1, F1, S1, [d], s1, ⟨v, [], rfl, r1, rfl⟩, h1⟩
    · rw [if_neg hq] at h1; exact h1.elim
theorem oe_methK {pl : Sem Bool} (G : GM X.prog X.w X.K X.mg X.base x f params ps k m) (hr : RoomG j X.A) (hk : k ≤ j) (tk : Takes X W) (ho : OE X W o mo) (hw : OK_ X W kws mks) (hb : KwTo params ps ks 1 pm) (hpm : ∀ i ∈ pm, i < 1 + ks.length := by decide)
    (hall : (backToKw pos (keywordEach kws X.env)).all (·.1.isSome) = true := by rfl) (hks : (backToKw pos (keywordEach kws X.env)).filterMap (·.1) = ks := by rfl)
    (hpl : ((backTo pos (starEach [] X.env)).any (·.1) || (backToKw pos (keywordEach kws X.env)).any (·.1.isNone)) = false := by rfl)
    (ht : eval (.Call (.Attribute o f apos) [] kws pos) X.env = (do
      let ov ← eval o X.env
      standAt apos.atName
      let (f, first) ← holding [ov] (getMethod ov f pl)
      callWith pos f first (backTo pos (starEach [] X.env)) (backToKw pos (keywordEach kws X.env))) := by rfl) :
    OE X W (.Call (.Attribute o f apos) [] kws pos) (eMethK x f m 0 ks.length pm mo aNil mks) := by
  obtain ⟨fd, F, _, hp⟩ := G.fn
  obtain ⟨u, p, ho⟩ := ho
  obtain ⟨t, q, hw⟩ := hw
  refine ⟨fun σ H Q => u σ H fun y H1 => ∃ a dx fs, y = .ref a ∧ H1 a = some (.ins (He.ga X.K x) dx fs) ∧ fs.lookup f = none ∧ t σ H1 fun zs H2 => zs.length = ks.length ∧ spM X.K m (permL .non pm (y :: zs)) H2 Q (WE W σ), ⟨fun pins s σ H Q I h => ?_⟩, fun ρ S io F σ H Q st en h => ?_⟩
  · refine PySem.W.methodCall_KW (pl := pl) (thn (p.run pins s σ H _ I h) fun v s1 ⟨y, H1, I1, rx, a, dx, fs, ex, ea, l, qq⟩ => ?_) ht
    subst ex
    obtain rfl : v = Value.ref a := rx
    refine getmeth_ok I1 ea G.cls G.me l ?_
    refine PySem.W.callWith_KW0 (first := [.ref a]) (h₀ := X.base) I.ok.mod.kin G.me.kp hall ?_ hpl
    refine thn (q.run pos pins s1 σ H1 _ I1 qq) fun ws s2 ⟨zs, H2, I2, rz, l2, q2⟩ => ⟨I2.kIn, ?_⟩
    rw [hks]
    exact run_kw (E := WE W) (us := [.ref a]) (vs := [.ref a]) F (hr.mono hk) hp hb (passAt tk σ) hpm I2 (.cons rfl .nil) rz rfl l2 q2
  · refine ho ρ S io F σ H _ st en (RG.bind h fun d S1 io1 F1 H1 v e1 n1 s1 r1 h1 => ?_)
    by_cases hq : isO x f S1 (nv S1 d) = true
    · rw [if_pos hq] at h1
      obtain ⟨a, dx, fs, e2, e3, e4⟩ := s1.isO (s1.nv r1) hq
      refine ⟨a, dx, fs, e2, e3, e4, ?_⟩
      replace h1 : RG X.K (RepA X.K) ((mks ρ S1).bind fun zs S3 => if (([] : List Vl).length = 0 ∧ zs.length = ks.length) then m (permL (.p .non) pm (d :: [] ++ zs)) S3 else .bad) io1 F1 H1 Q (fun c d H' => W c d σ H') := h1
      refine hw ρ S1 io1 F1 σ H1 _ s1 (en.nxt n1) (RG.bind h1 fun zs S2 io2 F2 H2 vs e5 n2 s2 r2 h2 => ?_)
      by_cases hl : (([] : List Vl).length = 0 ∧ zs.length = ks.length)
      · rw [if_pos hl] at h2
        have l2 : vs.length = ks.length := by rw [r2.length]; exact hl.2
        refine ⟨l2, io2, F2, S2, _, s2, RepVs.perm (ds := d :: zs) (vs := v :: vs) ⟨v, vs, rfl, r1.mono n2.han n2.fr, r2⟩ pm (fun i hi => by rw [List.length_cons, l2]; have := hpm i hi; omega), h2⟩
      · rw [if_neg hl] at h2; exact h2.elim
    · rw [if_neg hq] at h1; exact h1.elim
structure GP (P : Program) (w : World) (K : PySem.W.Frag) (mg : Str → Option Value) (base : Heap) (x f : Str) (k : Nat) (m : MF) : Prop where
  cls : Cls K (He.ga K x)
  fn : ∃ p g fd ps, PropOf K (He.ga K x) f p g ∧ FnG P w K mg base k g fd ps (spM K m) ∧ Binds K fd ps []
theorem getpropG {pins : List (Addr × Obj)} {σ : St} {H : Hp} {s : Shared} {Q : VK} {b : Bool} {E' : Value → Shared → Prop} {C pp g a dx : Addr} {fs : List (Str × V)} {fd : FuncData} {sp : Sp} (I : Inv X pins σ H s) (ea : H a = some (.ins C dx fs)) (c : Cls X.K C) (hp : PropOf X.K C f pp g)
    (F : FnG X.prog X.w X.K X.mg X.base k g fd ps sp) (hr : RoomG (k + 1) X.A) (hb : Binds X.K fd ps []) (h : sp [.ref a] H Q (fun _ _ _ => False)) : wpAny (model X.prog X.w) X.A (getAttr (.ref a) f b) (EP X pins σ Q) E' s := by
  obtain ⟨mA, O, _, _, _, _⟩ := ins_get I.hok ea
  obtain ⟨od, J, _⟩ := O.look
  obtain ⟨rest, hrec⟩ := hp.rec_
  have I1 := I.tok (s.toks + 1)
  have hl : ([Value.ref a] ++ []).length = ps.length := (F.len _ _ _ _ h)
  have hc : (PySem.W.clsIn X.K C).isSome = true := by
    obtain ⟨cd, hc, _⟩ := PySem.W.any_some c.hd
    rw [hc]
    rfl
  have hx : Passes (L2.CX X.prog X.w) X.nox (fun _ _ _ => False) := passes_call (W := W0) takes0 fun _ _ _ _ h => h
  refine PySem.W.get_bind I.kIn J (PySem.W.plainGet_of (c.get f)).1 (PySem.W.findObj_data hc hp.at_ hp.get hp.tak) (PySem.W.plainGet_of (c.get f)).2 (wpAny_call (PySem.W.prop_get (s := { s with toks := s.toks + 1 }) I.kIn hrec ?_))
  refine codeAny_mono (F.run X.A.in1 X.stack { s with toks := s.toks + 1 } H ⟨[.ref a], []⟩ [.ref a] [.ref a] Q _ hr.in1 I1.env0.in1 (hb _ [.ref a] I1.kIn hl) (.cons rfl .nil) h) fun r s' hq => ?_
  match r, hq with
  | .error er, hq => exact False.elim (hx pins σ H { s with toks := s.toks + 1 } er s' (I1.wish _) hq)
  | .ok (.ret u), hq =>
    obtain ⟨v, H', I3, rv, q3⟩ := I1.after hq
    show wpAny _ _ (handedOut u) _ _ _
    rw [PySem.W.handedOut_of (handed_of rv)]
    exact wpAny_pure ⟨v, H', I3, rv, q3⟩
  | .ok .next, hq => exact hq.elim
  | .ok .brk, hq => exact hq.elim
  | .ok .cont, hq => exact hq.elim
def isC (c : Str) (S : Sto) : Vl → Bool
  | .p (.obj c' _ _) => decide (c' = c)
  | .c k => (match S[k]? with
    | some (.ins c' _ _) => decide (c' = c)
    | _ => false)
  | _ => false
theorem Sta.isC {K : PySem.W.Frag} {io : Io} {F : Hp} {S : Sto} {H : Hp} {c : Str} {d : Vl} {v : V} (st : Sta K io F S H) (r : RepV K io F d v) (h : Mir.isC c S d = true) : ∃ a dx fs, v = .ref a ∧ H a = some (.ins (He.ga K c) dx fs) := by
  cases d with
  | p x =>
    cases x with
    | obj c' ns xs =>
      have h : decide (c' = c) = true := h
      rw [decide_eq_true_eq] at h
      subst h
      obtain ⟨a, dx, gs, rfl, ha, hg, hr⟩ := r
      exact ⟨a, dx, gs, rfl, st.sub _ _ ha⟩
    | _ => cases h
  | c k =>
    unfold Mir.isC at h
    dsimp only at h
    split at h
    · rename_i c' ns xs hk
      rw [decide_eq_true_eq] at h
      subst h
      obtain ⟨a, ha, rfl⟩ := r
      obtain ⟨b, dx, gs, hb, hF, hH, hg, hr, _⟩ := st.cel k _ hk
      rw [ha] at hb; cases hb
      exact ⟨a, dx, gs, rfl, hH⟩
    · cases h
def eProp (c : Str) (m : MF) (o : ME) : ME := fun ρ S => (o ρ S).bind fun d S1 => if isC c S1 (nv S1 d) then (m [d] S1).nox else .bad
theorem oe_prop (G : GP X.prog X.w X.K X.mg X.base x f k m) (hr : RoomG j X.A) (hk : k + 1 ≤ j) (ho : OE X W o mo) (hab : attributeBase o f X.env (eval o X.env) = eval o X.env := by rfl) : OE X W (.Attribute o f pos) (eProp x m mo) := by
  obtain ⟨pp, g, fd, ps, hp, F, hb⟩ := G.fn
  obtain ⟨u, p, ho⟩ := ho
  refine ⟨fun σ H Q => u σ H fun y H1 => ∃ a dx fs, y = .ref a ∧ H1 a = some (.ins (He.ga X.K x) dx fs) ∧ spM X.K m [.ref a] H1 Q (fun _ _ _ => False), ⟨fun pins s σ H Q I h => ?_⟩, fun ρ S io F σ H Q st en h => ?_⟩
  · refine attr_of hab (thn (p.run pins s σ H _ I h) fun uu s1 ⟨y, H1, I1, rx, a, dx, fs, ex, ea, q⟩ => ?_)
    subst ex
    obtain rfl : uu = Value.ref a := rx
    exact getpropG I1 ea G.cls hp F (hr.mono hk) hb q
  refine ho ρ S io F σ H _ st en (RG.bind h fun d S1 io1 F1 H1 v e1 n1 s1 r1 h1 => ?_)
  by_cases hq : isC x S1 (nv S1 d) = true
  · rw [if_pos hq] at h1
    obtain ⟨a, dx, fs, e2, e3⟩ := s1.isC (s1.nv r1) hq
    subst e2
    refine ⟨a, dx, fs, rfl, e3, io1, F1, S1, [d], s1, ⟨.ref a, [], rfl, r1, rfl⟩, ?_⟩
    cases q : m [d] S1 with
    | bad => rw [q] at h1; exact h1.elim
    | exc c x S2 => rw [q] at h1; exact h1.elim
    | ok y S2 => rw [q] at h1; exact h1
  · rw [if_neg hq] at h1; exact h1.elim
end
end Mir

namespace Mir
open PySem L2
theorem repl_ints {K : PySem.W.Frag} {F : Hp} : ∀ ns : List Int, RepL K F (ns.map P.int) (ns.map V.int)
  | [] => .nil
  | _ :: ns => .cons rfl (repl_ints ns)
theorem law_callG {Pr : Program} {w : World} {K : PySem.W.Frag} {mg mb : Str → Option Value} {k : Nat} {fa a : Addr} {fd : FuncData} {x : Str} {m : MF} {s₁ : Shared} {vs : List Value} {ns : List Int} {S' : Sto}
    (KX : K.In s₁.heap) (hns : s₁.heap.Ns mainGlobals mg) (hb : s₁.heap.Ns builtinsNs mb) (hbb : ∀ x : Str, x ≠ "__name__" → mb x = bootBuiltins x) (hlim : s₁.heap.NoLimit) (hg : s₁.gens = #[])
    (ha : s₁.heap.get? a = some { cls := .type "list", data := .seq vs.toArray }) (hi : PyProof.Rows.IntsAre vs ns) (hl : ns.length ≤ sizeLine) (hr : RoomG k callerA)
    (F : ∀ base : Heap, K.In base → base.Ns mainGlobals mg → FnG Pr w K mg base k fa fd [x] (spM K m)) (hbind : ∀ (s : Shared) (u : Value), BindsTo s fd ⟨[u], []⟩ [(x, u)])
    (hm : m [.p (.scr (ns.map P.int))] [] = .ok (.p (.bl true)) S') :
    codeAny (model Pr w) callerA (.call (.ref fa) ⟨[.ref a], []⟩) (fun r s' => r = .ok (.ret (.bool true)) ∧ OldK s₁.heap s'.heap ∧ s'.os = s₁.os ∧ PyProof.Rows.AllBare s'.gens) s₁ := by
  have rv := vals_ints hi
  have lenV := hi.length
  have go : ∀ H : Hp, Only H → SqL K H a (ns.map V.int) → HOk Pr w H s₁.heap → (∀ b, H b ≠ none → b = a) → (H a ≠ none → K.lookup a = none) →
      codeAny (model Pr w) callerA (.call (.ref fa) ⟨[.ref a], []⟩) (fun r s' => r = .ok (.ret (.bool true)) ∧ OldK s₁.heap s'.heap ∧ s'.os = s₁.os ∧ PyProof.Rows.AllBare s'.gens) s₁ := by
    intro H hO hS hok hA hK
    have off : ∀ {b : Addr} {o : Obj}, s₁.heap.get? b = some o → (b = a → H b = none) → (hidT s₁.heap H).get? b = some o := fun {b o} e n => hidT_get e (by
      cases q : H b with
      | none => rfl
      | some u =>
        have z := n (hA b (by rw [q]; simp))
        rw [q] at z; cases z)
    have nsK : ∀ {b : Addr} {mm : Str → Option Value}, s₁.heap.Ns b mm → (hidT s₁.heap H).Ns b mm := fun {b mm} ⟨o, es, ep, e, d, r⟩ => ⟨o, es, ep, off e (fun z => by
      subst z
      rw [ha] at e; cases e
      exact nomatch (show Data.seq vs.toArray _ = Data.dict es ep from d)), d, r⟩
    have hKb : K.In (hidT s₁.heap H) := fun b o e => off (KX b o e) (fun z => by
      subst z
      cases q : H b with
      | none => rfl
      | some u => rw [hK (by rw [q]; simp)] at e; cases e)
    have e0 : Env0 Pr w K mg (hidT s₁.heap H) callerA [] s₁ H := ⟨rfl, ⟨hKb, nsK hns, ⟨mb, nsK hb, hbb⟩, let ⟨mc, h1, h2⟩ := hlim; ⟨mc, nsK h1, h2⟩⟩, fun b o e => of_hidT e, Nat.le_of_eq (hidT_size _ _), trivial, fun b hb => absurd (show b ∈ ([] : List Addr) from hb) (by simp), hok, .of_eq hg⟩
    have st : Sta K [] H [] H := ⟨rfl, fun j k a h => by simp at h, Same.refl _, fun k a h => by simp at h, fun k c h => by simp at h⟩
    have sp : spM K m [.ref a] H (fun v _ => v = .bl true) (fun _ _ _ => False) := by
      refine ⟨[], H, [], [.p (.scr (ns.map P.int))], st, ⟨_, [], rfl, ⟨a, ns.map V.int, rfl, hS, repl_ints ns⟩, rfl⟩, ?_⟩
      rw [hm]
      exact fun io' F' H' v _ _ r => r
    refine codeAny_mono ((F _ hKb (nsK hns)).run callerA [] s₁ H ⟨[.ref a], []⟩ [.ref a] [.ref a] _ _ hr e0 (hbind s₁ (.ref a)) (.cons rfl .nil) sp) fun r s' h => ?_
    match r, h with
    | .error e, ⟨_, _, _, _, _, _, _, _, _, _, _, _, z⟩ => exact z.elim
    | .ok .next, h => exact h.elim
    | .ok .brk, h => exact h.elim
    | .ok .cont, h => exact h.elim
    | .ok (.ret u), ⟨v, H', os, bare, un, hok', r', q⟩ =>
      have q : v = .bl true := q
      subst q
      obtain rfl : u = Value.bool true := r'
      refine ⟨rfl, OldK.of_keep fun b o e => ?_, os, bare⟩
      cases q : H b with
      | none => exact un.keep b o e q (by intro z; exact absurd (show b ∈ ([] : List Addr) from z) (by simp)) (by simp)
      | some u =>
        rcases hO b with z | ⟨ob, xs, z⟩
        · rw [q] at z; cases z
        · obtain ⟨e1, _⟩ := hok b _ z
          obtain ⟨e2, _⟩ := hok' b _ (un.frzs b ob _ z)
          rw [e] at e1; cases e1
          exact e2
  cases hk : K.lookup a with
  | some o =>
    have e := KX a o hk
    rw [ha] at e
    cases e
    exact go (fun _ => none) (fun _ => .inl rfl) (.inr ⟨_, vs.toArray, _, hk, rfl, rfl, rfl, by rw [List.size_toArray, lenV]; exact hl, by simpa using rv⟩) (fun b u z => nomatch (show (none : Option HO) = some u from z)) (fun b z => absurd rfl z) fun z => absurd rfl z
  | none =>
    obtain ⟨H0, hH0⟩ : ∃ H0 : Hp, H0 = fun b => if b = a then some (HO.frz { cls := .type "list", data := .seq vs.toArray } (.lst (ns.map V.int))) else none := ⟨_, rfl⟩
    have at1 : H0 a = some (HO.frz { cls := .type "list", data := .seq vs.toArray } (.lst (ns.map V.int))) := by rw [hH0]; exact if_pos rfl
    have at2 : ∀ b, b ≠ a → H0 b = none := fun b hb => by rw [hH0]; exact if_neg hb
    refine go H0 (fun b => ?_) (.inl (.inr ⟨_, at1⟩)) (fun b u z => ?_) (fun b z => ?_) fun _ => hk
    · by_cases hb : b = a
      · subst hb; exact .inr ⟨_, _, at1⟩
      · exact .inl (at2 b hb)
    · by_cases hb : b = a
      · subst hb
        rw [at1] at z
        cases z
        exact ⟨ha, by rw [List.length_map]; exact hl, vs, _, rv, ha⟩
      · rw [at2 b hb] at z; cases z
    · by_cases hb : b = a
      · exact hb
      · exact absurd (at2 b hb) z
theorem walkG {l : PySem.W.OpenLaw} {n k : Nat} {q : Program} {loose : List Str} {XP : (Str → Option Value) → Heap → Prop} {YP : World → Heap → Prop} {d : DefRec} {x : Str} {m : MF}
    (hn : l.most = some n) (hn2 : n ≤ sizeLine) (hdf : d.params.defaults = []) (hr : RoomG k callerA)
    (F : ∀ (w : World) (mg : Str → Option Value) (fa : Addr) (h : Heap), YP w h → h.Ns mainGlobals mg → mg d.name = some (.ref fa) →
      ∃ (K : PySem.W.Frag) (fd : FuncData), K.In h ∧ (∀ (s : Shared) (u : Value), BindsTo s fd ⟨[u], []⟩ [(x, u)]) ∧ ∀ base : Heap, K.In base → base.Ns mainGlobals mg → FnG l.prog w K mg base k fa fd [x] (spM K m))
    (hm : ∀ ns : List Int, ns.length ≤ n → ∃ S', m [.p (.scr (ns.map P.int))] [] = .ok (.p (.bl true)) S') :
    PySem.W.WalkO q loose XP YP l.row.toRowW d [] (fun f vs => PySem.call f vs) := by
  refine Att.attach_call hn hdf fun w s₀ s₁ mg mb fa o pm cd doc a vs ns G Y ho hd hcd hmg hobj hints hlen hg => ?_
  obtain ⟨K, fd, KX, hb, hF⟩ := F w mg fa _ Y G.T.g hmg
  obtain ⟨S', e⟩ := hm ns hlen
  exact law_callG KX G.T.g G.T.b G.T.builtins G.T.nolimit hg hobj hints (Nat.le_trans hlen hn2) hr hF hb e
structure DefM where
  ad : PySem.W.Frag → Addr
  name : Str
  qual : Str
  params : Arguments
  body : List Stmt
  scope : Scope
def fnM (K : PySem.W.Frag) (a : Addr) : He.FnW := match K.lookup a with
  | some ⟨_, _, .func fd, _⟩ => some (fd.name, fd.qualname, fd.params, fd.body, fd.scope, fd.globals, fd.closure, fd.builtins)
  | _ => none
def DefM.val (d : DefM) : He.FnW := some (d.name, d.qual, d.params, .stmts d.body, d.scope, mainGlobals, [], builtinsNs)
def DefM.ok (K : PySem.W.Frag) (d : DefM) : Bool := PySem.W.keepIn K (.ref (d.ad K)) && (match K.lookup (d.ad K) with
  | some ⟨_, _, .func fd, _⟩ => PySem.W.codeIn K fd.code d.qual && He.dflB K fd.defaults []
  | _ => false)
theorem DefM.funD {K : PySem.W.Frag} {d : DefM} (e : fnM K (d.ad K) = d.val) (c : d.ok K = true) : ∃ fd, FunD K d.name d.qual d.params d.body d.scope [] [] (d.ad K) fd := by
  unfold DefM.ok at c
  rw [Bool.and_eq_true] at c
  obtain ⟨hk, c⟩ := c
  unfold fnM at e
  cases q : K.lookup (d.ad K) with
  | none => rw [q] at c; cases c
  | some o =>
    obtain ⟨oc, od, dt, osl⟩ := o
    rw [q] at c e
    cases dt with
    | func fd =>
      obtain ⟨n1, n2, n3, n4, n5, n6, n7, n8, n9, n10, n11, n12, n13, n14, n15⟩ := fd
      have e2 : (some (n1, n2, n3, n4, n5, n6, n7, n15) : He.FnW) = some (d.name, d.qual, d.params, .stmts d.body, d.scope, mainGlobals, [], builtinsNs) := e
      simp only [Option.some.injEq, Prod.mk.injEq] at e2
      obtain ⟨h1, h2, h3, h4, h5, h6, h7, h9⟩ := e2
      subst h1 h2 h3 h4 h5 h6 h7 h9
      dsimp only at c
      rw [Bool.and_eq_true] at c
      exact ⟨_, ⟨oc, od, _, _, _, _, _, _, _, osl, rfl, q, c.1, He.dflB_ok c.2, .inl rfl⟩, hk⟩
    | _ => cases c
abbrev AlM : Type := Bool × List He.FnW
def obsM (ck : PySem.W.Frag → Bool) (fn : List DefM) (K : PySem.W.Frag) : AlM := (ck K && fn.all fun d => d.ok K, fn.map fun d => fnM K (d.ad K))
def valM (fn : List DefM) : AlM := (true, fn.map DefM.val)
def SaysM (ck : PySem.W.Frag → Bool) (fn : List DefM) (K : PySem.W.Frag) : Prop := obsM ck fn K = valM fn
def hasX (m a : Nat) : Bool := Nat.beq (Nat.land (Nat.shiftRight m a) 1) 1
def addX : List Addr → Nat → List Addr → List Addr × Nat
  | [], m, acc => (acc.reverse, m)
  | a :: l, m, acc => match hasX m a with
    | true => addX l m acc
    | false => addX l (Nat.lor m (Nat.shiftLeft 1 a)) (a :: acc)
def refsX (g : Addr → Option Obj) (a : Addr) : List Addr := match g a with
  | some o => He.refsD o
  | none => []
def bfsX (g : Addr → Option Obj) : Nat → List Addr → Nat → List Addr
  | 0, fr, _ => fr
  | n + 1, fr, m => match addX (fr.flatMap (refsX g)) m [] with
    | (nw, m2) => fr ++ bfsX g n nw m2
def asX (g : Addr → Option Obj) (n : Nat) : List Addr := bfsX g n [mainGlobals] (Nat.shiftLeft 1 mainGlobals)
def obsMG (n : Nat) (ck : PySem.W.Frag → Bool) (fn : List DefM) (g : Addr → Option Obj) : AlM := obsM ck fn (He.frG g (asX g n))
def hookM (n : Nat) (ck : PySem.W.Frag → Bool) (fn : List DefM) : PySem.W.Hook where
  α := AlM
  obs := fun s => obsMG n ck fn s.heap.get?
  val := fun _ => valM fn
  says := fun _ h => ∃ K : PySem.W.Frag, K.In h ∧ SaysM ck fn K
  of := fun _ _ e => ⟨_, He.frG_in, e⟩
  keeps := fun _ _ _ ⟨K, hK, c⟩ k => ⟨K, PySem.W.Frag.In.keeps hK k, c⟩
theorem obsMG_eq {n : Nat} {ck : PySem.W.Frag → Bool} {fn : List DefM} {g : Addr → Option Obj} {s : Shared} (h : ∀ a, g a = s.heap.get? a) : obsMG n ck fn g = (hookM n ck fn).obs s := by
  have e : g = s.heap.get? := funext h
  rw [e] <;> rfl
section
variable {ck : PySem.W.Frag → Bool} {fn : List DefM} {K : PySem.W.Frag}
theorem SaysM.chk (c : SaysM ck fn K) : ck K = true := (He.ba (show (ck K && fn.all fun d => d.ok K) = true from congrArg (fun z : AlM => z.1) c)).1
theorem SaysM.def_ (c : SaysM ck fn K) (i : Nat) {d : DefM} (h : fn[i]? = some d := by rfl) : ∃ fd, FunD K d.name d.qual d.params d.body d.scope [] [] (d.ad K) fd := by
  have c2 := (He.ba (show (ck K && fn.all fun d => d.ok K) = true from congrArg (fun z : AlM => z.1) c)).2
  have e : fn.map (fun d => fnM K (d.ad K)) = fn.map DefM.val := congrArg (fun z : AlM => z.2) c
  have e2 : (fn.map fun d => fnM K (d.ad K))[i]? = (fn.map DefM.val)[i]? := by rw [e]
  rw [List.getElem?_map, List.getElem?_map, h] at e2
  exact DefM.funD (Option.some.inj e2) (List.all_eq_true.mp c2 d (List.mem_of_getElem? h))
end
def pa (K : PySem.W.Frag) (C f : Str) : Addr := He.ma K (He.ga K C) f
def pg (K : PySem.W.Frag) (C f : Str) : Addr := match PySem.W.recIn K (pa K C f) "property" with
  | some (.ref g :: _) => g
  | _ => 0
def propB (K : PySem.W.Frag) (C f : Str) : Bool := He.eqO (PySem.W.findIn K (.ref (He.ga K C)) f) (some (some (.ref (pa K C f)))) && (He.eqO (PySem.W.specialIn K (.ref (pa K C f)) "__get__") (some (some (.builtin "property.__get__"))) &&
  (decide (PySem.W.takesIn K (.ref (pa K C f)) = some true) && (match PySem.W.recIn K (pa K C f) "property" with
    | some (.ref _ :: _) => true
    | _ => false)))
theorem propB_ok {K : PySem.W.Frag} {C f : Str} (h : propB K C f = true) : PropOf K (He.ga K C) f (pa K C f) (pg K C f) := by
  unfold propB at h
  obtain ⟨h1, h⟩ := He.ba h
  obtain ⟨h2, h⟩ := He.ba h
  obtain ⟨h3, h4⟩ := He.ba h
  refine ⟨He.eqO_ok h1, He.eqO_ok h2, of_decide_eq_true h3, ?_⟩
  unfold pg
  split at h4
  · rename_i g r e
    rw [e]
    exact ⟨_, rfl⟩
  · cases h4
inductive Tg where
  | b (n : String) | o (c : Str)
def tgOf (S : Sto) : Vl → Option Tg
  | .p .non => some (.b "NoneType")
  | .p (.bl _) => some (.b "bool")
  | .p (.int _) => some (.b "int")
  | .p (.str _) => some (.b "str")
  | .p (.tup _) => some (.b "tuple")
  | .p (.lst _) => some (.b "list")
  | .p (.dct _ _) => some (.b "dict")
  | .p (.obj c _ _) => some (.o c)
  | .c k => (match S[k]? with
    | some (.lst _) => some (.b "list")
    | some (.lsv _) => some (.b "list")
    | some (.dct _ _) => some (.b "dict")
    | some (.ins c _ _) => some (.o c)
    | _ => none)
  | _ => none
def comTy : List String := ["NoneType", "bool", "int", "str", "tuple", "list", "dict"]
def isB (a n : String) : Option Bool := if a = n ∧ a ∈ comTy then some true else if a = "bool" ∧ n = "int" then some true else if a ∈ comTy ∧ n ∈ comTy ∧ a ≠ n then some false else none
theorem isB_ok {K : PySem.W.Frag} {a n : String} {b : Bool} (h : isB a n = some b) : PySem.W.kitOne K (.type a) (.type n) = some b := by
  refine kit_ty ?_
  unfold isB at h
  have key : ∀ a ∈ comTy, ∀ n ∈ comTy, kitB a n = some (a == n || (a == "bool" && n == "int")) := by decide +kernel
  split at h
  · rename_i q
    cases h
    rw [key a q.2 n (by rw [← q.1]; exact q.2), q.1]
    simp
  · split at h
    · rename_i q
      cases h
      rw [q.1, q.2]
      decide +kernel
    · rename_i q1 q2
      split at h
      · rename_i q
        cases h
        rw [key a q.1 n q.2.1]
        have : (a == n) = false := beq_eq_false_iff_ne.mpr q.2.2
        rw [this]
        have : (a == "bool" && n == "int") = false := by
          rw [Bool.eq_false_iff]
          intro z
          rw [Bool.and_eq_true, beq_iff_eq, beq_iff_eq] at z
          exact q2 z
        rw [this]
        rfl
      · cases h
structure IsiC (K : PySem.W.Frag) (cs : List Str) : Prop where
  cls : ∀ c ∈ cs, Cls K (He.ga K c) ∧ PySem.W.findIn K (.ref (He.ga K c)) "__class__" = some (some (.builtin "object.__class__")) ∧ PySem.W.specialIn K (.builtin "object.__class__") "__get__" = some (some (.builtin "getset_descriptor.__get__")) ∧
    PySem.W.takesIn K (.builtin "object.__class__") = some true ∧ PySem.W.mroIn K (He.ga K c) (.type "object") = some true
  up : ∀ c ∈ cs, ∀ n ∈ comTy, PySem.W.kitOne K (.ref (He.ga K c)) (.type n) = some false
  dn : ∀ c ∈ cs, ∀ n ∈ comTy, PySem.W.kitOne K (.type n) (.ref (He.ga K c)) = some false
  ne : ∀ c ∈ cs, ∀ d ∈ cs, c ≠ d → PySem.W.kitOne K (.ref (He.ga K c)) (.ref (He.ga K d)) = some false
def isiB (K : PySem.W.Frag) (cs : List Str) : Bool := (cs.all fun c => (He.Fa.cls c).ok K && (He.eqO (PySem.W.findIn K (.ref (He.ga K c)) "__class__") (some (some (.builtin "object.__class__"))) && (He.eqO (PySem.W.specialIn K (.builtin "object.__class__") "__get__") (some (some (.builtin "getset_descriptor.__get__"))) &&
    (decide (PySem.W.takesIn K (.builtin "object.__class__") = some true) && decide (PySem.W.mroIn K (He.ga K c) (.type "object") = some true))))) &&
  ((cs.all fun c => comTy.all fun n => decide (PySem.W.kitOne K (.ref (He.ga K c)) (.type n) = some false)) && ((cs.all fun c => comTy.all fun n => decide (PySem.W.kitOne K (.type n) (.ref (He.ga K c)) = some false)) &&
    (cs.all fun c => cs.all fun d => decide (c = d) || decide (PySem.W.kitOne K (.ref (He.ga K c)) (.ref (He.ga K d)) = some false))))
theorem isiB_ok {K : PySem.W.Frag} {cs : List Str} (h : isiB K cs = true) : IsiC K cs := by
  unfold isiB at h
  obtain ⟨h1, h⟩ := He.ba h
  obtain ⟨h2, h⟩ := He.ba h
  obtain ⟨h3, h4⟩ := He.ba h
  rw [List.all_eq_true] at h1 h2 h3 h4
  refine ⟨fun c hc => ?_, fun c hc n hn => ?_, fun c hc n hn => ?_, fun c hc d hd ne => ?_⟩
  · obtain ⟨a, h⟩ := He.ba (h1 c hc)
    obtain ⟨b, h⟩ := He.ba h
    obtain ⟨c', h⟩ := He.ba h
    obtain ⟨d, e⟩ := He.ba h
    exact ⟨He.cls_ok a, He.eqO_ok b, He.eqO_ok c', of_decide_eq_true d, of_decide_eq_true e⟩
  · exact of_decide_eq_true (List.all_eq_true.mp (h2 c hc) n hn)
  · exact of_decide_eq_true (List.all_eq_true.mp (h3 c hc) n hn)
  · have z := List.all_eq_true.mp (h4 c hc) d hd
    rw [Bool.or_eq_true, decide_eq_true_eq, decide_eq_true_eq] at z
    rcases z with z | z
    · exact absurd z ne
    · exact z
def isT (cs : List Str) : Tg → P → Option Bool
  | .b a, .ty n => isB a n
  | .o c, .ty n => if c ∈ cs ∧ n ∈ comTy then some false else none
  | .b a, .glo x => if x ∈ cs ∧ a ∈ comTy then some false else none
  | .o c, .glo x => if c ∈ cs ∧ x ∈ cs then some (decide (c = x)) else none
  | _, _ => none
def eIsi (cs : List Str) (a b : ME) : ME := fun ρ S => (a ρ S).bind fun d S1 => (b ρ S1).bind fun q S2 => match tgOf S2 (nv S2 d), q with
  | some t, .p y => (match isT cs t y with
    | some r => .ok (.p (.bl r)) S2
    | none => .bad)
  | _, _ => .bad
def tgV (K : PySem.W.Frag) : Tg → Value
  | .b n => .type n
  | .o c => .ref (He.ga K c)
theorem tg_cls {S : Sto} {d : Vl} {t : Tg} (h : tgOf S d = some t) : (∃ n ∈ comTy, t = .b n) ∨ ∃ c, t = .o c := by
  cases d with
  | p x => cases x <;> cases h <;> first | exact .inl ⟨_, by decide, rfl⟩ | exact .inr ⟨_, rfl⟩
  | c k =>
    unfold tgOf at h
    dsimp only at h
    split at h <;> cases h <;> first | exact .inl ⟨_, by decide, rfl⟩ | exact .inr ⟨_, rfl⟩
theorem Sta.tyx {K : PySem.W.Frag} {io : Io} {F : Hp} {S : Sto} {H : Hp} {cs : List Str} {d : Vl} {v : V} {t : Tg} (st : Sta K io F S H) (I : IsiC K cs) (r : RepV K io F d v) (h : tgOf S d = some t) (hc : ∀ c, t = .o c → c ∈ cs) : TyX K H v (tgV K t) := by
  have sq : ∀ {a : Addr} {vs : List V}, SqT K H a vs → TyX K H (.ref a) (.type "tuple") := fun {a vs} q => by
    rcases q with q | ⟨o, its, n, h1, h2, _⟩
    · rcases q with q | ⟨ob, q⟩
      · exact .base (.tup q)
      · exact .fTuple q
    · exact .kTuple h1 h2
  have ob : ∀ {a dx : Addr} {gs : List (Str × V)} {c : Str}, t = .o c → H a = some (.ins (He.ga K c) dx gs) → TyX K H (.ref a) (.ref (He.ga K c)) := fun {a dx gs c} e q => by
    obtain ⟨h1, h2, h3, h4, h5⟩ := I.cls c (hc c e)
    exact .base (.ins q h1 h2 h3 h4 h5)
  cases d with
  | p x =>
    cases x with
    | non => cases h; have r : v = _ := r; subst r; exact .base .non
    | bl y => cases h; have r : v = _ := r; subst r; exact .base (.bl _)
    | int y => cases h; have r : v = _ := r; subst r; exact .base (.int _)
    | str y => cases h; have r : v = _ := r; subst r; exact .base (.str _)
    | tup y => cases h; obtain ⟨a, vs, rfl, h1, _⟩ := r; exact sq (sqt_mono st.sub h1)
    | lst y => cases h; obtain ⟨a, vs, rfl, h1, _⟩ := r; exact .base (.lst (st.sub _ _ h1))
    | dct y z => cases h; obtain ⟨a, vs, rfl, h1, _⟩ := r; exact .base (.dK (st.sub _ _ h1))
    | obj c ns xs => cases h; obtain ⟨a, dx, gs, rfl, h1, _⟩ := r; exact ob rfl (st.sub _ _ h1)
    | ty _ => cases h
    | glo _ => cases h
    | raw _ => cases h
    | rwp _ _ => cases h
    | scr _ => cases h
  | c k =>
    unfold tgOf at h
    dsimp only at h
    obtain ⟨a, ha, rfl⟩ := r
    cases hk : S[k]? with
    | none => rw [hk] at h; cases h
    | some cc =>
      rw [hk] at h
      cases cc with
      | lst xs =>
        cases h
        obtain ⟨b, vs, hb, _, hH, _⟩ := st.cel k _ hk
        rw [ha] at hb; cases hb
        exact .base (.lst hH)
      | lsv xs =>
        cases h
        obtain ⟨b, vs, hb, _, hH, _⟩ := st.cel k _ hk
        rw [ha] at hb; cases hb
        exact .base (.lst hH)
      | dct ks xs =>
        cases h
        obtain ⟨b, vs, hb, _, hH, _⟩ := st.cel k _ hk
        rw [ha] at hb; cases hb
        exact .base (.dK hH)
      | ins c ns xs =>
        cases h
        obtain ⟨b, dx, gs, hb, _, hH, _⟩ := st.cel k _ hk
        rw [ha] at hb; cases hb
        exact ob rfl hH
      | fz _ => cases h
      | res => cases h
      | tup _ => cases h
      | dcT _ _ => cases h
      | dcN _ _ _ => cases h
      | tbl _ _ => cases h
      | dvs _ => cases h
      | tblC _ _ _ => cases h
      | tpz _ => cases h
section
variable {X : Cx} {W : WX} {a b e o : Expr} {ma mb mo : ME} {pos p : Pos}
theorem oe_isi {cs : List Str} (I : IsiC X.K cs) (hm : X.mg "isinstance" = none) (ha : OE X W a ma) (hb : OE X W b mb) (hg : Gl X "isinstance" := by rfl)
    (hs : starEach [a, b] X.env = (false, eval a X.env) :: starEach [b] X.env := by rfl) (hs2 : starEach [b] X.env = (false, eval b X.env) :: starEach [] X.env := by rfl) (hplain : (backTo pos (starEach [b] X.env)).any (·.1) = false := by rfl) :
    OE X W (.Call (.Name "isinstance" p) [a, b] [] pos) (eIsi cs ma mb) := by
  obtain ⟨t, q, ha⟩ := ha
  obtain ⟨u, q2, hb⟩ := hb
  refine ⟨_, pe_callB call_isi hg hm (by first | rfl | decide +kernel) (pa_cons q (pa_cons q2 pa_nil hs2) hs) (by decide) (by decide) hs hplain, fun ρ S io F σ H Q st en h => ?_⟩
  refine ha ρ S io F σ H _ st en (RG.bind h fun d S1 io1 F1 H1 v e1 n1 s1 r1 h1 => ?_)
  refine hb ρ S1 io1 F1 σ H1 _ s1 (en.nxt n1) (RG.bind h1 fun d2 S2 io2 F2 H2 v2 e2 n2 s2 r2 h2 => ?_)
  replace r1 := s2.nv (r1.mono n2.han n2.fr)
  generalize nv S2 d = d at r1 h2
  split at h2
  · rename_i t y ht
    cases hr : isT cs t y with
    | none => rw [hr] at h2; exact h2.elim
    | some r =>
      rw [hr] at h2
      have fin : Q (.bl r) H2 := h2 io2 F2 H2 (.bl r) Nxt.refl s2 rfl
      cases t with
      | b nm =>
        cases y with
        | ty n =>
          have r2 : v2 = _ := r2
          subst r2
          exact ⟨v, .ty n, _, _, r, rfl, .ty n, s2.tyx I r1 ht (fun c z => nomatch z), isB_ok hr, fin⟩
        | glo x =>
          have r2 : v2 = _ := r2
          subst r2
          have hr : (if x ∈ cs ∧ nm ∈ comTy then some false else none) = some r := hr
          split at hr
          · rename_i z
            cases hr
            exact ⟨v, .ref _, _, _, false, rfl, .own _, s2.tyx I r1 ht (fun c z => nomatch z), I.dn x z.1 nm z.2, fin⟩
          · cases hr
        | _ => cases hr
      | o c =>
        cases y with
        | ty n =>
          have r2 : v2 = _ := r2
          subst r2
          have hr : (if c ∈ cs ∧ n ∈ comTy then some false else none) = some r := hr
          split at hr
          · rename_i z
            cases hr
            exact ⟨v, .ty n, _, _, false, rfl, .ty n, s2.tyx I r1 ht (fun c' e => by cases e; exact z.1), I.up c z.1 n z.2, fin⟩
          · cases hr
        | glo x =>
          have r2 : v2 = _ := r2
          subst r2
          have hr : (if c ∈ cs ∧ x ∈ cs then some (decide (c = x)) else none) = some r := hr
          split at hr
          · rename_i z
            cases hr
            refine ⟨v, .ref _, _, _, _, rfl, .own _, s2.tyx I r1 ht (fun c' e => by cases e; exact z.1), ?_, fin⟩
            by_cases q : c = x
            · subst q
              rw [decide_eq_true rfl]
              show (if (Value.ref (He.ga X.K c) == Value.ref (He.ga X.K c)) = true then some true else _) = _
              rw [if_pos (by simp)]
            · rw [decide_eq_false q]
              exact I.ne c z.1 x z.2 q
          · cases hr
        | _ => cases hr
  · exact h2.elim
end
end Mir

namespace Mir
open PySem L2
def reprP (x : P) : List Nat := x.toD.shown.cps.toList
def pRepr : List P → Option P
  | [.lst xs] => if (P.lst xs).dat 60 && (P.lst xs).toD.showable && decide ((reprP (.lst xs)).length ≤ 100000) then some (.str (reprP (.lst xs))) else none
  | [.tup xs] => if (P.tup xs).dat 60 && (P.tup xs).toD.showable && decide ((reprP (.tup xs)).length ≤ 100000) then some (.str (reprP (.tup xs))) else none
  | _ => none
section
variable {X : Cx} {W : WX} {a b e o : Expr} {ma mb mo : ME} {pos p : Pos} {k : Nat}
end
def kOf : P → Option Key
  | .int i => some (.inl i)
  | .str x => some (.inr (strOf x))
  | _ => none
def keq : P → P → Bool
  | .int i, .int j => i == j
  | .str x, .str y => x == y
  | _, _ => false
def dRep (k v : P) : List P → List P → List P
  | a :: ks, b :: vs => (if keq a k then v else b) :: dRep k v ks vs
  | _, _ => []
def dPutK (k : P) (ks : List P) : List P := if ks.any fun a => keq a k then ks else ks ++ [k]
def dPutV (k v : P) (ks vs : List P) : List P := if ks.any fun a => keq a k then dRep k v ks vs else vs ++ [v]
def dGet (k : P) : List P → List P → Option P
  | a :: ks, b :: vs => if keq a k then some b else dGet k ks vs
  | _, _ => none
section
variable {K : PySem.W.Frag} {F : Hp}
theorem keq_dec {a k : P} {q kk : Key} (r : Rep K F a (kV q)) (h : kOf k = some kk) : keq a k = decide (q = kk) := by
  cases k with
  | int j =>
    cases h
    cases q with
    | inl i =>
      cases a with
      | int l =>
        have r : V.int i = V.int l := r
        cases r
        show (i == j) = _
        rw [Bool.eq_iff_iff]; simp
      | tup _ => obtain ⟨_, _, e, _⟩ := r; cases e
      | lst _ => obtain ⟨_, _, e, _⟩ := r; cases e
      | scr _ => obtain ⟨_, _, e, _⟩ := r; cases e
      | dct _ _ => obtain ⟨_, _, e, _⟩ := r; cases e
      | obj _ _ _ => obtain ⟨_, _, _, e, _⟩ := r; cases e
      | rwp _ _ => obtain ⟨_, _, _, e, _⟩ := r; cases e
      | _ => cases r
    | inr x =>
      cases a with
      | int l => cases r
      | str y => rfl
      | tup _ => obtain ⟨_, _, e, _⟩ := r; cases e
      | lst _ => obtain ⟨_, _, e, _⟩ := r; cases e
      | scr _ => obtain ⟨_, _, e, _⟩ := r; cases e
      | dct _ _ => obtain ⟨_, _, e, _⟩ := r; cases e
      | obj _ _ _ => obtain ⟨_, _, _, e, _⟩ := r; cases e
      | rwp _ _ => obtain ⟨_, _, _, e, _⟩ := r; cases e
      | _ => cases r
  | str y =>
    cases h
    cases q with
    | inl i =>
      cases a with
      | int l => rfl
      | tup _ => obtain ⟨_, _, e, _⟩ := r; cases e
      | lst _ => obtain ⟨_, _, e, _⟩ := r; cases e
      | scr _ => obtain ⟨_, _, e, _⟩ := r; cases e
      | dct _ _ => obtain ⟨_, _, e, _⟩ := r; cases e
      | obj _ _ _ => obtain ⟨_, _, _, e, _⟩ := r; cases e
      | rwp _ _ => obtain ⟨_, _, _, e, _⟩ := r; cases e
      | _ => cases r
    | inr x =>
      cases a with
      | str z =>
        have r : V.str x = V.str (strOf z) := r
        cases r
        show (z == y) = decide (Sum.inr (strOf z) = Sum.inr (strOf y))
        rw [← strOf_beq, Bool.eq_iff_iff]; simp
      | tup _ => obtain ⟨_, _, e, _⟩ := r; cases e
      | lst _ => obtain ⟨_, _, e, _⟩ := r; cases e
      | scr _ => obtain ⟨_, _, e, _⟩ := r; cases e
      | dct _ _ => obtain ⟨_, _, e, _⟩ := r; cases e
      | obj _ _ _ => obtain ⟨_, _, _, e, _⟩ := r; cases e
      | rwp _ _ => obtain ⟨_, _, _, e, _⟩ := r; cases e
      | _ => cases r
  | _ => cases h
theorem kOf_rep {k : P} {kk : Key} (h : kOf k = some kk) : Rep K F k (kV kk) := by
  cases k <;> cases h <;> rfl
theorem rep_kOf {k : P} {kk : Key} {v : V} (h : kOf k = some kk) (r : Rep K F k v) : v = kV kk := by
  cases k with
  | int i => cases h; exact r
  | str x => cases h; exact r
  | _ => cases h
theorem any_keq {k : P} {kk : Key} (h : kOf k = some kk) : ∀ {ks : List P} {kvs : List (Key × V)}, RepL K F ks (kvs.map fun q => kV q.1) → (ks.any fun a => keq a k) = kvs.any fun kv => decide (kv.1 = kk)
  | [], [], r => rfl
  | [], _ :: _, r => by cases r
  | _ :: _, [], ⟨_, _, e, _⟩ => by cases e
  | a :: ks, q :: kvs, ⟨v, r, e, r1, r2⟩ => by
    cases e
    show (keq a k || ks.any fun a => keq a k) = (decide (q.1 = kk) || kvs.any fun kv => decide (kv.1 = kk))
    rw [keq_dec r1 h, any_keq h r2]
theorem dRep_rep {k x : P} {kk : Key} {v : V} (h : kOf k = some kk) (rv : Rep K F x v) : ∀ {ks xs : List P} {kvs : List (Key × V)}, RepL K F ks (kvs.map fun q => kV q.1) → RepL K F xs (kvs.map (·.2)) →
    RepL K F ks ((kvs.map fun kv => if kv.1 = kk then (kv.1, v) else kv).map fun q => kV q.1) ∧ RepL K F (dRep k x ks xs) ((kvs.map fun kv => if kv.1 = kk then (kv.1, v) else kv).map (·.2))
  | [], xs, [], r, s => ⟨.nil, by cases xs <;> exact .nil⟩
  | [], _, _ :: _, r, _ => by cases r
  | _ :: _, _, [], ⟨_, _, e, _⟩, _ => by cases e
  | a :: ks, [], q :: kvs, r, s => by cases s
  | a :: ks, b :: xs, q :: kvs, ⟨v1, r, e, r1, r2⟩, ⟨v2, s, e2, s1, s2⟩ => by
    cases e; cases e2
    obtain ⟨i1, i2⟩ := dRep_rep h rv r2 s2
    rw [List.map_cons, List.map_cons, List.map_cons]
    by_cases hq : q.1 = kk
    · rw [if_pos hq]
      refine ⟨⟨_, _, rfl, r1, i1⟩, ?_⟩
      show RepL K F ((if keq a k then x else b) :: dRep k x ks xs) _
      rw [keq_dec r1 h, decide_eq_true hq]
      exact ⟨_, _, rfl, rv, i2⟩
    · rw [if_neg hq]
      refine ⟨⟨_, _, rfl, r1, i1⟩, ?_⟩
      show RepL K F ((if keq a k then x else b) :: dRep k x ks xs) _
      rw [keq_dec r1 h, decide_eq_false hq]
      exact ⟨_, _, rfl, s1, i2⟩
theorem dPut_rep {k x : P} {kk : Key} {v : V} (h : kOf k = some kk) (rv : Rep K F x v) {ks xs : List P} {kvs : List (Key × V)} (r : RepL K F ks (kvs.map fun q => kV q.1)) (s : RepL K F xs (kvs.map (·.2))) :
    RepL K F (dPutK k ks) ((putK kvs kk v).map fun q => kV q.1) ∧ RepL K F (dPutV k x ks xs) ((putK kvs kk v).map (·.2)) := by
  unfold dPutK dPutV putK
  rw [any_keq h r]
  cases q : kvs.any fun kv => decide (kv.1 = kk) with
  | true => exact dRep_rep h rv r s
  | false =>
    rw [if_neg (by decide), if_neg (by decide), if_neg (by decide)]
    rw [List.map_append, List.map_append]
    exact ⟨r.append (.cons (kOf_rep h) .nil), s.append (.cons rv .nil)⟩
theorem dGet_rep {k : P} {kk : Key} (h : kOf k = some kk) : ∀ {ks xs : List P} {kvs : List (Key × V)}, RepL K F ks (kvs.map fun q => kV q.1) → RepL K F xs (kvs.map (·.2)) →
    (∀ x, dGet k ks xs = some x → ∃ v, valV kvs kk = some v ∧ Rep K F x v) ∧ (dGet k ks xs = none → valV kvs kk = none)
  | [], xs, [], r, s => by
    have e : dGet k [] xs = none := by cases xs <;> rfl
    rw [e]
    exact And.intro (fun x z => by cases z) (fun _ => rfl)
  | [], _, _ :: _, r, _ => by cases r
  | _ :: _, _, [], ⟨_, _, e, _⟩, _ => by cases e
  | a :: ks, [], q :: kvs, r, s => by cases s
  | a :: ks, b :: xs, q :: kvs, ⟨v1, r, e, r1, r2⟩, ⟨v2, s, e2, s1, s2⟩ => by
    cases e; cases e2
    obtain ⟨i1, i2⟩ := dGet_rep h r2 s2
    have e3 : dGet k (a :: ks) (b :: xs) = if keq a k then some b else dGet k ks xs := rfl
    rw [e3, keq_dec r1 h]
    by_cases hq : q.1 = kk
    · rw [decide_eq_true hq, valV_pos hq]
      exact ⟨fun x z => by cases z; exact ⟨_, rfl, s1⟩, fun z => nomatch z⟩
    · rw [decide_eq_false hq, valV_neg hq]
      exact ⟨i1, i2⟩
end
def mergeP : List P → List P → List P → Option (List P × List P)
  | [], ks, vs => some (ks, vs)
  | .tup [k, v] :: r, ks, vs => (match kOf k with
    | some _ => mergeP r (dPutK k ks) (dPutV k v ks vs)
    | none => none)
  | _, _, _ => none
def pDictP : List P → Option P
  | [.lst xs] => (mergeP xs [] []).map fun q => .dct q.1 q.2
  | _ => none
section
variable {K : PySem.W.Frag} {io : Io} {F : Hp} {S : Sto} {H : Hp}
theorem mergeP_rep (st : Same F H) : ∀ {rows ks vs ks' vs' : List P} {rv : List V} {kvs : List (Key × V)}, mergeP rows ks vs = some (ks', vs') → RepL K F rows rv → RepL K F ks (kvs.map fun q => kV q.1) → RepL K F vs (kvs.map (·.2)) →
    ∃ (ps : List Addr) (more : List (Key × V)), rv = ps.map V.ref ∧ Paired (fun p kv => SqT K H p [kV kv.1, kv.2]) ps more ∧ RepL K F ks' ((mergeK kvs more).map fun q => kV q.1) ∧ RepL K F vs' ((mergeK kvs more).map (·.2))
  | [], ks, vs, ks', vs', rv, kvs, e, r, r1, r2 => by
    cases e
    have r : _ = _ := r
    subst r
    exact ⟨[], [], rfl, .nil, r1, r2⟩
  | x :: rows, ks, vs, ks', vs', rv, kvs, e, ⟨v, r', e1, rx, rr⟩, r1, r2 => by
    subst e1
    match x, rx, e with
    | .tup [k, y], rx, e =>
      have e : (match kOf k with
        | some _ => mergeP rows (dPutK k ks) (dPutV k y ks vs)
        | none => none) = some (ks', vs') := e
      cases hk : kOf k with
      | none => rw [hk] at e; cases e
      | some kk =>
        rw [hk] at e
        obtain ⟨a, ws, rfl, ha, ⟨w1, t1, ew, q1, ⟨w2, t2, ew2, q2, q3⟩⟩⟩ := rx
        have q3 : t2 = [] := q3
        subst q3; subst ew2; subst ew
        have := rep_kOf hk q1
        subst this
        obtain ⟨i1, i2⟩ := dPut_rep hk q2 r1 r2
        obtain ⟨ps, more, e2, hp, j1, j2⟩ := mergeP_rep st e rr i1 i2
        exact ⟨a :: ps, (kk, w2) :: more, by rw [e2]; rfl, .cons (sqt_mono st ha) hp, j1, j2⟩
    | .tup [], _, e => cases e
    | .tup [_], _, e => cases e
    | .tup (_ :: _ :: _ :: _), _, e => cases e
    | .non, _, e => cases e
    | .bl _, _, e => cases e
    | .int _, _, e => cases e
    | .str _, _, e => cases e
    | .lst _, _, e => cases e
    | .dct _ _, _, e => cases e
    | .obj _ _ _, _, e => cases e
    | .ty _, _, e => cases e
    | .glo _, _, e => cases e
    | .raw _, _, e => cases e
    | .rwp _ _, _, e => cases e
    | .scr _, _, e => cases e
theorem ok_dictP : CallOk K (fun xs H Q => ∃ (a : Addr) (ps : List Addr) (kvs : List (Key × V)), xs = [.ref a] ∧ SqL K H a (ps.map V.ref) ∧ Paired (fun p kv => SqT K H p [kV kv.1, kv.2]) ps kvs ∧
    ∀ p, H p = none → Q (.ref p) (upd H p (.dK (mergeK [] kvs)))) pDictP := by
  intro io F S H xs vs z Q st rx e k
  unfold pDictP at e
  split at e
  · rename_i rows
    cases hm : mergeP rows [] [] with
    | none => rw [hm] at e; cases e
    | some q =>
      rw [hm] at e
      cases e
      obtain ⟨v, rfl, r⟩ := rx.one
      obtain ⟨a, rv, rfl, h1, h2⟩ := r
      obtain ⟨ps, more, e2, hp, j1, j2⟩ := mergeP_rep (kvs := []) st.sub hm h2 .nil .nil
      subst e2
      refine ⟨a, ps, more, rfl, SqL.of h1, hp, fun p hp => ?_⟩
      obtain ⟨s3, n3⟩ := st.froze (o := .dK (mergeK [] more)) hp
      exact k _ _ _ n3 s3 ⟨p, _, rfl, upd_same, RepL.mono n3.fr j1, RepL.mono n3.fr j2⟩
  · cases e
end
section
variable {X : Cx} {W : WX} {a b e o : Expr} {ma mb mo : ME} {pos p : Pos} {k : Nat}
theorem oe_dictP (hc : X.calm = true) (hm : X.mg "dict" = none) (ha : OE X W a ma) (hg : Gl X "dict" := by rfl) (hs : starEach [a] X.env = (false, eval a X.env) :: starEach [] X.env := by rfl) :
    OE X W (.Call (.Name "dict" p) [a] [] pos) (eCall pDictP (aCons ma aNil)) := oe_callTy (call_dictP hc) ok_dictP hm (by first | rfl | decide +kernel) (oa_cons ha oa_nil hs) hg (by decide) (by decide) hs rfl
end
end Mir

namespace Mir
open PySem L2
def rwpB (y z : List Nat) : List Value → Bool
  | [.str x t, .str w u] => decide (strOf y = x) && (decide (strOf z = w) && (decide (t ≠ 0) && (decide (u ≠ 0) && (decide (t ≠ u) && !(strOf y == strOf z)))))
  | _ => false
theorem rwpB_ok {y z : List Nat} : ∀ {l : List Value}, rwpB y z l = true → ∃ t u, l = [.str (strOf y) t, .str (strOf z) u] ∧ t ≠ 0 ∧ u ≠ 0 ∧ t ≠ u ∧ (strOf y == strOf z) = false
  | [.str x t, .str w u], h => by
    obtain ⟨h1, h⟩ := He.ba (show (decide (strOf y = x) && (decide (strOf z = w) && (decide (t ≠ 0) && (decide (u ≠ 0) && (decide (t ≠ u) && !(strOf y == strOf z)))))) = true from h)
    obtain ⟨h2, h⟩ := He.ba h
    obtain ⟨h3, h⟩ := He.ba h
    obtain ⟨h4, h⟩ := He.ba h
    obtain ⟨h5, h6⟩ := He.ba h
    have h1 := of_decide_eq_true h1
    have h2 := of_decide_eq_true h2
    subst h1 h2
    refine ⟨t, u, rfl, of_decide_eq_true h3, of_decide_eq_true h4, of_decide_eq_true h5, ?_⟩
    cases q : strOf y == strOf z with
    | false => rfl
    | true => rw [q] at h6; cases h6
mutual
def repK (K : PySem.W.Frag) : P → Value → Bool
  | .non, .none => true
  | .bl b, .bool c => b == c
  | .int i, .int j _ => decide (i = j)
  | .str x, .str y _ => decide (strOf x = y)
  | .ty n, .type m => decide (n = m)
  | .glo x, .ref a => decide (He.ga K x = a)
  | .tup xs, .ref a => (match K.lookup a with
    | some ⟨.type c, _, .seq its _, _⟩ => decide (c = "tuple") && (decide (its.size ≤ sizeLine) && repKs K xs its.toList)
    | _ => false)
  | .rwp y z, .ref a => (match K.lookup a with
    | some ⟨.type c, _, .seq its _, _⟩ => decide (c = "tuple") && rwpB y z its.toList
    | _ => false)
  | _, _ => false
def repKs (K : PySem.W.Frag) : List P → List Value → Bool
  | [], [] => true
  | x :: xs, u :: us => repK K x u && repKs K xs us
  | _, _ => false
end
section
variable {K : PySem.W.Frag}
mutual
theorem repK_ok : ∀ {x : P} {u : Value}, repK K x u = true → ∃ v, RelV v u ∧ ∀ F, Rep K F x v
  | .non, u, h => by
    cases u <;> first | exact ⟨.non, rfl, fun _ => rfl⟩ | cases h
  | .bl b, u, h => by
    cases u with
    | bool c =>
      have h : (b == c) = true := h
      rw [beq_iff_eq] at h
      subst h
      exact ⟨.bl b, rfl, fun _ => rfl⟩
    | _ => cases h
  | .int i, u, h => by
    cases u with
    | int j t =>
      have h : decide (i = j) = true := h
      rw [decide_eq_true_eq] at h
      subst h
      exact ⟨.int i, ⟨_, rfl⟩, fun _ => rfl⟩
    | _ => cases h
  | .str x, u, h => by
    cases u with
    | str y t =>
      have h : decide (strOf x = y) = true := h
      rw [decide_eq_true_eq] at h
      subst h
      exact ⟨.str (strOf x), ⟨_, rfl⟩, fun _ => rfl⟩
    | _ => cases h
  | .ty n, u, h => by
    cases u with
    | type m =>
      have h : decide (n = m) = true := h
      rw [decide_eq_true_eq] at h
      subst h
      exact ⟨.ty n, rfl, fun _ => rfl⟩
    | _ => cases h
  | .glo x, u, h => by
    cases u with
    | ref a =>
      have h : decide (He.ga K x = a) = true := h
      rw [decide_eq_true_eq] at h
      subst h
      exact ⟨.ref _, rfl, fun _ => rfl⟩
    | _ => cases h
  | .raw _, u, h => by cases u <;> cases h
  | .rwp y z, u, h => by
    cases u with
    | ref a =>
      have h : (match K.lookup a with
        | some ⟨.type c, _, .seq its _, _⟩ => decide (c = "tuple") && rwpB y z its.toList
        | _ => false) = true := h
      split at h
      · rename_i c od its n sl q
        obtain ⟨h1, h⟩ := He.ba h
        obtain ⟨t, u, e, q1, q2, q3, q4⟩ := rwpB_ok h
        refine ⟨.ref a, rfl, fun F => ⟨a, t, u, rfl, ⟨⟨_, n, .inr q, congrArg Value.type (of_decide_eq_true h1), ?_⟩, q1, q2, q3, q4⟩⟩⟩
        have e2 : its = #[.str (strOf y) t, .str (strOf z) u] := by rw [← Array.toArray_toList (xs := its), e]
        rw [e2]
      · cases h
    | _ => cases h
  | .tup xs, u, h => by
    cases u with
    | ref a =>
      have h : (match K.lookup a with
        | some ⟨.type c, _, .seq its _, _⟩ => decide (c = "tuple") && (decide (its.size ≤ sizeLine) && repKs K xs its.toList)
        | _ => false) = true := h
      split at h
      · rename_i c od its n sl q
        obtain ⟨h1, h⟩ := He.ba h
        obtain ⟨h2, h3⟩ := He.ba h
        obtain ⟨vs, r1, r2⟩ := repKs_ok h3
        exact ⟨.ref a, rfl, fun F => ⟨a, vs, rfl, .inr ⟨_, its, n, q, congrArg Value.type (of_decide_eq_true h1), rfl, of_decide_eq_true h2, r1⟩, r2 F⟩⟩
      · cases h
    | _ => cases h
  | .lst _, u, h => by cases u <;> cases h
  | .dct _ _, u, h => by cases u <;> cases h
  | .obj _ _ _, u, h => by cases u <;> cases h
  | .scr _, u, h => by cases u <;> cases h
theorem repKs_ok : ∀ {xs : List P} {us : List Value}, repKs K xs us = true → ∃ vs, Vals vs us ∧ ∀ F, RepL K F xs vs
  | [], [], h => ⟨[], .nil, fun _ => .nil⟩
  | [], _ :: _, h => by cases h
  | _ :: _, [], h => by cases h
  | x :: xs, u :: us, h => by
    obtain ⟨h1, h2⟩ := He.ba h
    obtain ⟨v, r1, r2⟩ := repK_ok h1
    obtain ⟨vs, r3, r4⟩ := repKs_ok h2
    exact ⟨v :: vs, .cons r1 r3, fun F => .cons (r2 F) (r4 F)⟩
end
def gloB (K : PySem.W.Frag) (x : Str) (p : P) : Bool := match PySem.W.nsIn K mainGlobals x with
  | some (some u) => repK K p u
  | _ => false
def GV (K : PySem.W.Frag) (mg : Str → Option Value) (x : Str) (p : P) : Prop := ∃ u v, mg x = some u ∧ RelV v u ∧ ∀ F, Rep K F p v
theorem gloB_ok {h : Heap} {mg : Str → Option Value} (X : K.In h) (G : h.Ns mainGlobals mg) {x : Str} {p : P} (c : gloB K x p = true) : GV K mg x p := by
  unfold gloB at c
  split at c
  · rename_i u e
    obtain ⟨v, r, hp⟩ := repK_ok c
    exact ⟨u, v, PySem.W.mg_of X G e, r, hp⟩
  · cases c
end
section
variable {X : Cx} {W : WX} {a b c e o : Expr} {ma mb mc mo : ME} {pos p : Pos} {k : Nat}
theorem oe_gV {x : Str} {q : P} (h : GV X.K X.mg x q) (hg : Gl X x := by rfl) (hd : (x == ("__debug__" : Str)) = false := by decide) : OE X W (.Name x pos) (eC q) := by
  obtain ⟨u, v, h1, h2, h3⟩ := h
  exact oe_glob h1 h2 h3 hg hd
theorem oe_gC {x : Str} (h : X.mg x = some (.ref (He.ga X.K x))) (hg : Gl X x := by rfl) (hd : (x == ("__debug__" : Str)) = false := by decide) : OE X W (.Name x pos) (eC (.glo x)) := oe_glob (v := .ref _) h rfl (fun _ => rfl) hg hd
theorem oe_bT {x : Str} {n : String} (hm : X.mg x = none) (hv : bootBuiltins x = some (.type n) := by first | rfl | decide +kernel) (hg : Gl X x := by rfl) (hn : x ≠ "__name__" := by decide) (hd : (x == ("__debug__" : Str)) = false := by decide) : OE X W (.Name x pos) (eC (.ty n)) := oe_bltn (v := .ty n) hm hv rfl (fun _ => rfl) hg hn hd
def eChn (f g : P → P → Option P) (a b c : ME) : ME := fun ρ S => (a ρ S).bind fun x S1 => (b ρ S1).bind fun y S2 => (op2 f x y S2).bind fun z S3 => match z with
  | .p (.bl true) => (c ρ S3).bind fun w S4 => op2 g y w S4
  | .p (.bl false) => .ok (.p (.bl false)) S3
  | _ => .bad
theorem BinOk.run {K : PySem.W.Frag} {io : Io} {F : Hp} {S : Sto} {H : Hp} {r : R2} {f : P → P → Option P} {d d2 : Vl} {v v2 : V} {C D : Type} {R' : Io → Hp → C → D → Prop} {g : Vl → Sto → Res C} {Q : D → Hp → Prop} {Q1 : VK} {E : XK} (hf : BinOk K r f) (st : Sta K io F S H) (r1 : RepV K io F d v) (r2 : RepV K io F d2 v2)
    (h : RG K R' ((op2 f d d2 S).bind g) io F H Q E) (k : ∀ z F' H' u, Nxt io F H io F' H' → Sta K io F' S H' → Rep K F' z u → RG K R' (g (.p z) S) io F' H' Q E → Q1 u H') : r v v2 H Q1 := by
  unfold op2 at h
  cases e1 : rd S d with
  | none => rw [e1] at h; exact h.elim
  | some x =>
    cases e2 : rd S d2 with
    | none => rw [e1, e2] at h; exact h.elim
    | some y =>
      rw [e1, e2] at h
      dsimp only at h
      cases e3 : f x y with
      | none => rw [e3] at h; exact h.elim
      | some z =>
        rw [e3] at h
        exact hf io F S H x y v v2 z Q1 st (st.rd r1 e1) (st.rd r2 e2) e3 fun F' H' u n s rp => k z F' H' u n s rp (RG.step n h)
theorem chn_go {op op' : CmpOp} {r r' : R2} {f g : P → P → Option P} {ta tb tc : TE} (hf : BinOk X.K r f) (hg : BinOk X.K r' g)
    (ha : ∀ (ρ : En) (S : Sto) (io : Io) (F : Hp) (σ : St) (H : Hp) (Q : VK), Sta X.K io F S H → Mir.Env X.K io F ρ σ → RG X.K (RepA X.K) (ma ρ S) io F H Q (fun c d H' => W c d σ H') → ta σ H Q)
    (hb : ∀ (ρ : En) (S : Sto) (io : Io) (F : Hp) (σ : St) (H : Hp) (Q : VK), Sta X.K io F S H → Mir.Env X.K io F ρ σ → RG X.K (RepA X.K) (mb ρ S) io F H Q (fun c d H' => W c d σ H') → tb σ H Q)
    (hc : ∀ (ρ : En) (S : Sto) (io : Io) (F : Hp) (σ : St) (H : Hp) (Q : VK), Sta X.K io F S H → Mir.Env X.K io F ρ σ → RG X.K (RepA X.K) (mc ρ S) io F H Q (fun c d H' => W c d σ H') → tc σ H Q)
    (ρ : En) (S : Sto) (io : Io) (F : Hp) (σ : St) (H : Hp) (Q : VK) (st : Sta X.K io F S H) (en : Mir.Env X.K io F ρ σ) (h : RG X.K (RepA X.K) (eChn f g ma mb mc ρ S) io F H Q (fun c d H' => W c d σ H')) : tChain r r' ta tb tc σ H Q := by
  refine ha ρ S io F σ H _ st en (RG.bind h fun d S1 io1 F1 H1 v e1 n1 s1 r1 h1 => ?_)
  refine hb ρ S1 io1 F1 σ H1 _ s1 (en.nxt n1) (RG.bind h1 fun d2 S2 io2 F2 H2 v2 e2 n2 s2 r2 h2 => ?_)
  refine BinOk.run hf s2 (r1.mono n2.han n2.fr) r2 h2 fun z F3 H3 u n3 s3 r3 h3 => ?_
  cases z with
  | bl q =>
    have r3 : u = .bl q := r3
    subst r3
    refine ⟨q, rfl, ?_⟩
    cases q with
    | true =>
      refine iteT ?_
      refine hc ρ S2 io2 F3 σ H3 _ s3 (en.nxt ((n1.trans n2).trans n3)) (RG.bind h3 fun d4 S4 io4 F4 H4 v4 e4 n4 s4 r4 h4 => ?_)
      exact s4.op2 hg (r2.mono (n3.trans n4).han (n3.trans n4).fr) r4 h4
    | false => exact iteF (h3 io2 F3 H3 (.bl false) Nxt.refl s3 rfl)
  | _ => exact h3.elim
theorem ot_chn {op op' : CmpOp} {r r' : R2} {f g : P → P → Option P} (ho : OpR X (compareOp op) r) (ho' : OpR X (compareOp op') r') (hf : BinOk X.K r f) (hg : BinOk X.K r' g) (ha : OE X W a ma) (hb : OE X W b mb) (hc : OE X W c mc) (hm : lastMarks [op, op'] [b, c] = false := by with_unfolding_all rfl) :
    OT X W (.Compare a [op, op'] [b, c] pos) (tVal (eChn f g ma mb mc)) := by
  obtain ⟨ta, pa, ha⟩ := ha
  obtain ⟨tb, pb, hb⟩ := hb
  obtain ⟨tc, pc, hc⟩ := hc
  refine ⟨_, pt_chain ho ho' pa pb pc hm, fun ρ S io F σ H Q st en h => ?_⟩
  refine chn_go (op := op) (op' := op') hf hg ha hb hc ρ S io F σ H _ st en ?_
  exact RG.bind h fun d S1 io1 F1 H1 v e1 n1 s1 r1 h1 => tst_go s1 r1 h1
abbrev bLt : P → P → Option P := pIB fun i j => decide (i < j)
abbrev bLe : P → P → Option P := pIB fun i j => decide (i ≤ j)
theorem ot_lele (ha : OE X W a ma) (hb : OE X W b mb) (hc : OE X W c mc) : OT X W (.Compare a [.LtE, .LtE] [b, c] pos) (tVal (eChn bLe bLe ma mb mc)) := ot_chn op_le op_le ok_B0 ok_B0 ha hb hc (nomark c)
def sParG (n : Nat) (m : MA) (r : MGs) : MS := fun ρ S => (m ρ S).go ρ fun ds S1 => if ds.length = n ∧ n ≤ 100000 then ((r ds ρ S1).nox).go ρ fun ρ1 S2 => .ok (.nx ρ1) S2 else .bad
theorem os_parG {ts es : List Expr} {js : List Nat} {mas : MA} {r : MGs} {kt k2 n : Nat} {pt pt2 : Pos} (hc : X.calm = true) (ha : OA X W es mas) (hg : OGs X W0 ts js r) (hn : (assignEach ts X.env).length = n := by rfl) (hst : (assignEach ts X.env).findIdx? (·.1) = none := by rfl)
    (hs : swapsWithSole [.Tuple ts kt pt] (.Tuple es k2 pt2) pos.line X.env = pure false := by rfl) (hw : swappedStores [.Tuple ts kt pt] (.Tuple es k2 pt2) X.env = pure none := by rfl)
    (h1 : (assignEach [.Tuple ts kt pt] X.env).map (·.2) = [assign (.Tuple ts kt pt) X.env] := by rfl) : OS X W (.Assign [.Tuple ts kt pt] (.Tuple es k2 pt2) pos) (sParG n mas r) := by
  obtain ⟨t, p, ha⟩ := ha
  obtain ⟨u, q, hg⟩ := hg
  refine ⟨_, ps_asg (pe_tup p) (pg_tup hc q hn hst) hs hw h1, fun ρ S io F σ H D st en h => ?_⟩
  refine ha ρ S io F σ H _ st en (RS.go en h fun ds S1 io1 F1 H1 vs e1 n1 s1 r1 h2 => ?_)
  by_cases hq : ds.length = n ∧ n ≤ 100000
  · rw [if_pos hq] at h2
    have hl : vs.length = n := by rw [r1.length]; exact hq.1
    refine ⟨by rw [hl]; exact sz5 hq.2, fun p hp => ⟨p, vs, rfl, SqT.of upd_same, hl, ?_⟩⟩
    have s2 := s1.side (o := .tup vs) (s1.notIn hp) (Same.free s1.sub hp)
    have n2 : Nxt io1 F1 H1 io1 F1 (upd H1 p (.tup vs)) := Nxt.side hp
    refine hg ds vs ρ S1 io1 F1 σ _ _ s2 (en.nxt (n1.trans n2)) (r1.mono n2.han n2.fr) (RS.nox (RS.step n2 h2) fun ρ1 S2 io2 F2 H2 σ2 e2 n3 s3 r3 h3 => ?_)
    exact h3 io2 F2 H2 σ2 Nxt.refl s3 r3.1
  · rw [if_neg hq] at h2; exact h2.elim
def sPar3 (i j l : Nat) (a : MA) : MS := fun ρ S => (a ρ S).go ρ fun ds S1 => match ds with
  | [d, d2, d3] => .ok (.nx (((ρ.set i (some d)).set j (some d2)).set l (some d3))) S1
  | _ => .bad
theorem os_par3 {i j l : Nat} {x y z : Str} {mas : MA} {px py pz pt : Pos} {kt k2 pt2} (hc : X.calm = true) (hN : X.N.Nodup) (ha : OA X W [a, b, c] mas) (hi : X.N[i]? = some x := by rfl) (hj : X.N[j]? = some y := by rfl) (hl : X.N[l]? = some z := by rfl) (hij : i ≠ j := by decide) (hil : i ≠ l := by decide) (hjl : j ≠ l := by decide)
    (hx : X.env.scope.names.lookup x = some .local := by rfl) (hy : X.env.scope.names.lookup y = some .local := by rfl) (hz : X.env.scope.names.lookup z = some .local := by rfl)
    (hw : swappedStores [.Tuple [.Name x px, .Name y py, .Name z pz] kt pt] (.Tuple [a, b, c] k2 pt2) X.env = pure (some [x, y, z]) := by rfl)
    (hs : swapsWithSole [.Tuple [.Name x px, .Name y py, .Name z pz] kt pt] (.Tuple [a, b, c] k2 pt2) pos.line X.env = pure false := by rfl) :
    OS X W (.Assign [.Tuple [.Name x px, .Name y py, .Name z pz] kt pt] (.Tuple [a, b, c] k2 pt2) pos) (sPar3 i j l mas) := by
  obtain ⟨t, p, ha⟩ := ha
  refine ⟨_, ps_par3 hc hN hi hj hl hij hil hjl hx hy hz p hw hs, fun ρ S io F σ H D s en h => ?_⟩
  refine ha ρ S io F σ H _ s en (RS.go en h fun ds S1 io1 F1 H1 vs e1 n1 s1 r1 h1 => ?_)
  match ds, r1, h1 with
  | [d, d2, d3], ⟨v, w, e1, ra, ⟨v2, w2, e2, rb, ⟨v3, w3, e3, rc, e4⟩⟩⟩, h1 =>
    have e4 : w3 = [] := e4
    subst e4; subst e3; subst e2; subst e1
    exact ⟨v, v2, v3, rfl, h1 io1 F1 H1 _ Nxt.refl s1 ((((en.nxt n1).set ra i).set rb j).set rc l)⟩
  | [], _, h1 => exact h1.elim
  | [_], _, h1 => exact h1.elim
  | [_, _], _, h1 => exact h1.elim
  | _ :: _ :: _ :: _ :: _, _, h1 => exact h1.elim
end
end Mir

namespace Mir
open PySem L2
section
variable {K : PySem.W.Frag} {Q : VK} {E : XK}
end
section
variable {X : Cx} {W : WX} {elt tg iter : Expr} {ifs : List Expr} {scope : Scope} {own : List (Str × Nat)} {pos : Pos} {it : MI} {js : List Nat} {g : MG} {t : MT} {e : ME}
theorem os_setLcC {i : Nat} {y : Str} {py spos : Pos} (hc : X.calm = true) (hN : X.N.Nodup) (hi : OI X W tg iter it) (ok : BlkOk X.N X.env.scope scope own) (hj : ∀ j ∈ js, j ∈ own.map (·.2))
    (hg : ∀ (s : Shared) (H : Hp) (C : Addr) (cl : List (Str × Addr)) (fp : List Addr), OG (X.blk s H scope (compEnvC scope cl C X.env) fp) W0 tg js g) (ht : ∀ (s : Shared) (H : Hp) (C : Addr) (cl : List (Str × Addr)) (fp : List Addr), OTs (X.blk s H scope (compEnvC scope cl C X.env) fp) ifs t)
    (he : ∀ (s : Shared) (H : Hp) (C : Addr) (cl : List (Str × Addr)) (fp : List Addr), OE (X.blk s H scope (compEnvC scope cl C X.env) fp) W0 elt e) (hy : X.N[i]? = some y := by rfl) (hyl : X.env.scope.names.lookup y = some .local := by rfl)
    (hsw : swapsWith (.ListComp elt [⟨tg, iter, ifs, 0⟩] scope pos) (some (.Name y py)) spos.line X.env = pure true := by exact sw_true rfl rfl rfl (by decide +kernel)) (hs : ∀ x, foldedSetIterable iter X.env x = pure x := by intro _; rfl) :
    OS X W (.Assign [.Name y py] (.ListComp elt [⟨tg, iter, ifs, 0⟩] scope pos) spos) (sAsg (eLcC it (own.map (·.2)) g t e) (gNm i)) := by
  skip
  obtain ⟨wi, p, hi⟩ := hi
  refine ⟨_, ps_setLc (g := tG X.K W0 js g) (tt := tT X.K W0 t) (te := tE X.K W0 e) hc hN hy hyl hsw p ok (fun s H C cl fp => (hg s H C cl fp).pg) (fun s H C cl fp => ht s H C cl fp) (fun s H C cl fp => (he s H C cl fp).pe) hs, fun ρ S io F σ H D' st en h => ?_⟩
  have h := RS.go (R := RepA X.K) (Q1 := fun v H1 => gName i v σ H1 D'.nx) en h fun d S1 io1 F1 H1 v e1 n1 s1 r1 h1 => h1 io1 F1 H1 (σ.set i (some v)) Nxt.refl s1 ((en.nxt n1).set r1 i)
  show tLc wi _ _ _ _ σ H (fun v H1 => gName i v σ H1 D'.nx)
  refine hi ρ S io F σ H _ st en (RG.bind h fun xs S1 io1 F1 H1 J e1 n1 s1 ij h1 => ?_)
  intro D hD
  by_cases hz : xs.length ≤ 100000
  · rw [if_pos hz] at h1
    refine lc_turns (wi := wi) s1 (en.nxt n1) hj ij hz h1 D hD fun ys S2 io2 F2 H2 acc nx s2 nD fD hH ra h2 => ?_
    have hi2 : (io2 ++ [some D])[S2.length]? = some (some D) := by rw [← s2.len]; simp
    obtain ⟨s3, n3⟩ := Sta.lay s2 nD fD hH (c := .lst ys) ⟨D, acc, hi2, fD, hH, ra⟩
    refine h2 (io2 ++ [some D]) F2 H2 (.ref D) ?_ s3 ⟨D, hi2, rfl⟩
    refine ⟨fun k a z => n3 k a (nx.han k a z), nx.fr, nx.out, fun k a z => ?_, nx.stay, nx.nf⟩
    rw [List.getElem?_append] at z
    split at z
    · exact nx.new k a z
    · rename_i hk
      have hk2 : k - io2.length = 0 := by
        have := (List.getElem?_eq_some_iff.mp z).1
        simp at this
        omega
      rw [hk2] at z
      have z : D = a := by simpa using z
      subst z
      exact .inr hD
  · rw [if_neg hz] at h1
    exact h1.elim

end
theorem BinOk.or {K : PySem.W.Frag} {r r' : R2} {f g : P → P → Option P} (h : BinOk K r f) (h' : BinOk K r' g) : BinOk K (fun x y H Q => r x y H Q ∨ r' x y H Q) (fun x y => match f x y with
  | some z => some z
  | none => g x y) := by
  intro io F S H x y v w z Q st rx ry e k
  cases q : f x y with
  | some z' =>
    dsimp only at e
    rw [q] at e
    have e : z' = z := Option.some.inj e
    subst e
    exact .inl (h io F S H x y v w z' Q st rx ry q k)
  | none =>
    dsimp only at e
    rw [q] at e
    exact .inr (h' io F S H x y v w z Q st rx ry e k)
def pInD (y z : P) : Option P := match z with
  | .lst xs => if y.dat 60 && (P.lst xs).dat 60 then some (.bl (inP y xs)) else none
  | _ => none
def pNotInD (y z : P) : Option P := match z with
  | .lst xs => if y.dat 60 && (P.lst xs).dat 60 then some (.bl (!inP y xs)) else none
  | _ => none
theorem any_toD {y : P} {n : Nat} (hy : y.dat n = true) {m : Nat} : ∀ {xs : List P}, datL xs m = true → ((toDL xs).any fun z => PyData.eqv z y.toD) = inP y xs
  | [], _ => rfl
  | x :: xs, h => by
    have h : (x.dat m && datL xs m) = true := h
    rw [Bool.and_eq_true] at h
    show (PyData.eqv x.toD y.toD || (toDL xs).any fun z => PyData.eqv z y.toD) = (x.eqv y || inP y xs)
    rw [P.eqD h.1 hy, any_toD hy h.2]
theorem ok_inD {K : PySem.W.Frag} : BinOk K (rInD K) pInD := by
  intro io F S H x y v w z Q st rx ry e k
  unfold pInD at e
  split at e
  · rename_i xs
    split at e
    · rename_i hd
      rw [Bool.and_eq_true] at hd
      cases e
      refine ⟨x.toD, toDL xs, Rep.dp hd.1 (rx.now st.sub), Rep.dp (x := .lst xs) hd.2 (ry.now st.sub), P.shp (by decide) hd.1, P.shp (x := .lst xs) (by decide) hd.2, ?_⟩
      rw [any_toD (m := 59) hd.1 hd.2]
      exact k F H _ Nxt.refl st rfl
    · cases e
  · cases e
theorem ok_notInD {K : PySem.W.Frag} : BinOk K (rNotInD K) pNotInD := by
  intro io F S H x y v w z Q st rx ry e k
  unfold pNotInD at e
  split at e
  · rename_i xs
    split at e
    · rename_i hd
      rw [Bool.and_eq_true] at hd
      cases e
      refine ⟨x.toD, toDL xs, Rep.dp hd.1 (rx.now st.sub), Rep.dp (x := .lst xs) hd.2 (ry.now st.sub), P.shp (by decide) hd.1, P.shp (x := .lst xs) (by decide) hd.2, ?_⟩
      rw [any_toD (m := 59) hd.1 hd.2]
      exact k F H _ Nxt.refl st rfl
    · cases e
  · cases e
def pIn2 (x y : P) : Option P := match pIn x y with
  | some z => some z
  | none => pInD x y
def pNotIn2 (x y : P) : Option P := match pNotIn x y with
  | some z => some z
  | none => pNotInD x y
section
variable {X : Cx} {W : WX} {a b : Expr} {ma mb : ME} {pos : Pos} {k : Nat}
theorem room65 {A : Around} (hr : Room k A) : A.units + 65 < cLine := by have := hr.un; omega
theorem oe_in2 (hr : Room k X.A) (ha : OE X W a ma) (hb : OE X W b mb) (hm : behindInMarks .In b = false := by rfl) : OE X W (.Compare a [.In] [b] pos) (eBin pIn2 ma mb) := oe_cmp (OpR.or (OpR.or op_in_seq op_in_str) (op_inD (room65 hr))) (BinOk.or ok_in ok_inD) ha hb hm
theorem ot_in2 (hr : Room k X.A) (ha : OE X W a ma) (hb : OE X W b mb) (hm : behindInMarks .In b = false := by rfl) : OT X W (.Compare a [.In] [b] pos) (tVal (eBin pIn2 ma mb)) := ot_cmp (OpR.or (OpR.or op_in_seq op_in_str) (op_inD (room65 hr))) (BinOk.or ok_in ok_inD) ha hb hm
theorem ot_notIn2 (hr : Room k X.A) (ha : OE X W a ma) (hb : OE X W b mb) (hm : behindInMarks .NotIn b = false := by rfl) : OT X W (.Compare a [.NotIn] [b] pos) (tVal (eBin pNotIn2 ma mb)) := ot_cmp (OpR.or (OpR.or op_notIn_seq op_notin_str) (op_notInD (room65 hr))) (BinOk.or ok_notIn ok_notInD) ha hb hm
end
end Mir

namespace Mir
open PySem L2
def lcGo2 (g : MG) (t : MT) (it1 : MI) (vs1 : List Nat) (g1 : MG) (t1 : MT) (e : ME) (ρ : En) : List P → Sto → Res (List P)
  | [], S => .ok [] S
  | x :: xs, S => (g (.p x) ρ S).nox.bind fun ρ1 S1 => (t ρ1 S1).nox.bind fun b S2 => match b with
    | true => (it1 ρ1 S2).nox.bind fun zs S3 => if zs.length ≤ 4000 then (lcGo g1 t1 e (wipeE ρ1 vs1) zs S3).bind fun us S4 => (lcGo2 g t it1 vs1 g1 t1 e ρ xs S4).bind fun ws S5 => .ok (us ++ ws) S5 else .bad
    | false => lcGo2 g t it1 vs1 g1 t1 e ρ xs S2
def eLc2 (it : MI) (vs : List Nat) (g : MG) (t : MT) (it1 : MI) (vs1 : List Nat) (g1 : MG) (t1 : MT) (e : ME) : ME := fun ρ S => (it ρ S).bind fun xs S1 => if xs.length ≤ 4000 then (lcGo2 g t it1 vs1 g1 t1 e (wipeE ρ vs) xs S1).bind fun ys S2 => .ok (.p (.lst ys)) S2 else .bad
section
variable {K : PySem.W.Frag} {Q : VK} {E : XK}
end
def tI1 (K : PySem.W.Frag) (m : MI) : TI := fun σ H R => ∃ ρ S io F, Sta K io F S H ∧ Mir.Env K io F ρ σ ∧ RG K (RepJ K) (m ρ S) io F H R (fun c d H' => False)
theorem OI.pi {X : Cx} {tg iter : Expr} {m : MI} (h : OI X W0 tg iter m) : PI X tg iter (tI1 X.K m) := by
  obtain ⟨t, p, h⟩ := h
  exact ⟨fun pins s σ H R I ⟨ρ, S, io, F, st, en, q⟩ => p.run pins s σ H R I (h ρ S io F σ H R st en q)⟩
section
variable {X : Cx} {W : WX} {elt tg iter tg1 iter1 : Expr} {ifs ifs1 : List Expr} {scope : Scope} {own : List (Str × Nat)} {pos : Pos} {it it1 : MI} {js js1 vs1 : List Nat} {g g1 : MG} {t t1 : MT} {e : ME}
end
end Mir

namespace Mir
open PySem L2
section
variable {X : Cx} {W : WX} {x : Str} {params : Arguments} {ps ks : List Str} {k j : Nat} {m : MF} {pm : List Nat} {kws : List Keyword} {mks : MA} {p pos : Pos}
end
def eRgL (m : ME) : ME := fun ρ S => (m ρ S).bind fun d S1 => match d with
  | .p (.int j) => if 0 ≤ j ∧ j ≤ 100000 then .ok (.p (.lst (rangeP 0 j.toNat))) S1 else .bad
  | _ => .bad
section
variable {X : Cx} {W : WX} {a b : Expr} {ma mb : ME} {p p2 pos pos2 : Pos}
end
def pIs : P → P → Option P
  | .bl a, .bl b => some (.bl (decide (a = b)))
  | _, _ => none
def pIsNot : P → P → Option P
  | .bl a, .bl b => some (.bl (!decide (a = b)))
  | _, _ => none
section
variable {X : Cx} {W : WX} {a b : Expr} {ma mb : ME} {pos : Pos}
end
def aStar (m : ME) (r : MA) : MA := fun ρ S => (m ρ S).bind fun d S1 => match rd S1 d with
  | some (.lst xs) => (r ρ S1).bind fun ys S2 => .ok (xs.map Vl.p ++ ys) S2
  | some (.tup xs) => (r ρ S1).bind fun ys S2 => .ok (xs.map Vl.p ++ ys) S2
  | _ => .bad
section
variable {X : Cx} {W : WX} {a : Expr} {es : List Expr} {ma : ME} {mas : MA} {p : Pos}
theorem oa_star (ha : OE X W a ma) (hr : OA X W es mas) (hs : starEach (.Starred a p :: es) X.env = (true, eval a X.env) :: starEach es X.env := by rfl) : OA X W (.Starred a p :: es) (aStar ma mas) := by
  obtain ⟨t, q, ha⟩ := ha
  obtain ⟨u, q2, hr⟩ := hr
  refine ⟨_, StX.pa_star q q2 hs, fun ρ S io F σ H Q st en h => ?_⟩
  refine ha ρ S io F σ H _ st en (RG.bind h fun d S1 io1 F1 H1 v e1 n1 s1 r1 h1 => ?_)
  cases e : rd S1 d with
  | none => rw [e] at h1; exact h1.elim
  | some x =>
    rw [e] at h1
    have rr := s1.rd r1 e
    cases x with
    | lst xs =>
      obtain ⟨a, vs, rfl, hH, rl⟩ := rr
      refine ⟨a, vs, rfl, .inr (SqL.of hH), ?_⟩
      refine hr ρ S1 io1 F1 σ H1 _ s1 (en.nxt n1) (RG.bind h1 fun d2 S2 io2 F2 H2 v2 e2 n2 s2 r2 h2 => ?_)
      exact RG.val (R := RepAs X.K) (d := xs.map Vl.p ++ d2) s2 ((RepVs.pure.mpr (RepL.mono n2.fr rl)).append r2) h2
    | tup xs =>
      obtain ⟨a, vs, rfl, hT, rl⟩ := rr
      refine ⟨a, vs, rfl, .inl (sqt_mono s1.sub hT), ?_⟩
      refine hr ρ S1 io1 F1 σ H1 _ s1 (en.nxt n1) (RG.bind h1 fun d2 S2 io2 F2 H2 v2 e2 n2 s2 r2 h2 => ?_)
      exact RG.val (R := RepAs X.K) (d := xs.map Vl.p ++ d2) s2 ((RepVs.pure.mpr (RepL.mono n2.fr rl)).append r2) h2
    | _ => exact h1.elim
end
def fmt1 : Vl → Option (List Nat)
  | .p (.str x) => if x.length ≤ 100000 then some x else none
  | .p (.int i) => if i.natAbs.log2 < 1920 then some (Str.ofString (toString i)).cps.toList else none
  | _ => none
abbrev MJ := List Nat → En → Sto → Res (List Nat)
def jNil : MJ := fun acc _ S => .ok acc S
def jTxt (x : List Nat) (r : MJ) : MJ := fun acc ρ S => if acc.length + x.length ≤ 100000 then r (acc ++ x) ρ S else .bad
def jFmt (m : ME) (r : MJ) : MJ := fun acc ρ S => (m ρ S).bind fun d S1 => match fmt1 d with
  | some x => if acc.length + x.length ≤ 100000 then r (acc ++ x) ρ S1 else .bad
  | none => .bad
def eJoin (r : MJ) : ME := fun ρ S => (r [] ρ S).bind fun x S1 => .ok (.p (.str x)) S1
def RepJs : Io → Hp → List Nat → Str → Prop := fun _ _ x y => y = strOf x
def OJ (X : Cx) (W : WX) (es : List Expr) (m : MJ) : Prop := ∃ ts, PJ X es ts ∧ ∀ (acc : List Nat) (ρ : En) (S : Sto) (io : Io) (F : Hp) (σ : St) (H : Hp) (Q : Str → Hp → Prop), Sta X.K io F S H → Mir.Env X.K io F ρ σ →
  RG X.K RepJs (m acc ρ S) io F H Q (fun c d H' => W c d σ H') → tJs ts (strOf acc) σ H Q
section
variable {X : Cx} {W : WX} {a : Expr} {es : List Expr} {ma : ME} {mj : MJ} {p pos : Pos}
theorem oj_nil : OJ X W [] jNil := ⟨[], .nil, fun acc ρ S io F σ H Q st en h => RG.val (R := RepJs) (d := acc) (v := strOf acc) st rfl h⟩
theorem oj_txt {x : Str} {j : Nat} {xs : List Nat} (hr : OJ X W es mj) (h : x.cps.toList = xs := by rfl) : OJ X W (.Constant (.str x) j p :: es) (jTxt xs mj) := by
  obtain ⟨ts, q, hr⟩ := hr
  refine ⟨_, .cons pe_str q, fun acc ρ S io F σ H Q st en hw => ?_⟩
  have e : x = strOf xs := by rw [← h, strOf_toList]
  subst e
  have hw : RG X.K RepJs (if acc.length + xs.length ≤ 100000 then mj (acc ++ xs) ρ S else .bad) io F H Q _ := hw
  by_cases hl : acc.length + xs.length ≤ 100000
  · rw [if_pos hl] at hw
    refine ⟨strOf xs, rfl, ?_, ?_⟩
    · rw [strOf_append, strOf_length, List.length_append]
      exact sz5 hl
    · rw [strOf_append]
      exact hr (acc ++ xs) ρ S io F σ H Q st en hw
  · rw [if_neg hl] at hw
    exact hw.elim
theorem oj_fmt (ha : OE X W a ma) (hr : OJ X W es mj) : OJ X W (.FormattedValue a (-1) none p :: es) (jFmt ma mj) := by
  obtain ⟨t, q1, ha⟩ := ha
  obtain ⟨ts, q, hr⟩ := hr
  refine ⟨_, .cons (pe_fmt q1) q, fun acc ρ S io F σ H Q st en hw => ?_⟩
  refine ha ρ S io F σ H _ st en (RG.bind (R := RepA X.K) hw fun d S1 io1 F1 H1 v e1 n1 s1 r1 h1 => ?_)
  cases hf : fmt1 d with
  | none => rw [hf] at h1; exact h1.elim
  | some x =>
    rw [hf] at h1
    dsimp only at h1
    by_cases hl : acc.length + x.length ≤ 100000
    · rw [if_pos hl] at h1
      have fin : (strOf acc ++ strOf x).length ≤ sizeLine ∧ tJs ts (strOf acc ++ strOf x) σ H1 Q := by
        refine ⟨?_, ?_⟩
        · rw [strOf_append, strOf_length, List.length_append]
          exact sz5 hl
        · rw [strOf_append]
          exact hr (acc ++ x) ρ S1 io1 F1 σ H1 Q s1 (en.nxt n1) h1
      cases d with
      | c k => cases hf
      | p y =>
        cases y with
        | str y =>
          have r1 : v = .str (strOf y) := r1
          subst r1
          unfold fmt1 at hf
          dsimp only at hf
          split at hf
          · rename_i hy
            cases hf
            exact .inl ⟨strOf x, rfl, by rw [strOf_length]; exact sz5 hy, strOf x, rfl, fin.1, fin.2⟩
          · cases hf
        | int i =>
          have r1 : v = .int i := r1
          subst r1
          unfold fmt1 at hf
          dsimp only at hf
          split at hf
          · rename_i hy
            have ex : (Str.ofString (toString i)).cps.toList = x := Option.some.inj hf
            subst ex
            rw [strOf_toList] at fin
            exact .inr ⟨i, rfl, hy, _, rfl, fin.1, fin.2⟩
          · cases hf
        | _ => cases hf
    · rw [if_neg hl] at h1
      exact h1.elim
theorem oe_fstr {v1 v2 : Expr} (h : OJ X W (v1 :: v2 :: es) mj) : OE X W (.JoinedStr (v1 :: v2 :: es) pos) (eJoin mj) := by
  obtain ⟨ts, q, h⟩ := h
  refine ⟨_, pe_joined q, fun ρ S io F σ H Q st en hw => ?_⟩
  refine h [] ρ S io F σ H _ st en (RG.bind (R := RepJs) hw fun x S1 io1 F1 H1 v e1 n1 s1 r1 h1 => ?_)
  have r1 : v = strOf x := r1
  subst r1
  exact RG.val (R := RepA X.K) (d := .p (.str x)) s1 rfl h1
end
end Mir

namespace Mir
open PySem L2
section
variable {K : PySem.W.Frag} {io : Io} {F H : Hp} {S : Sto}
theorem Sta.keep (st : Sta K io F S H) : Sta K (io ++ [none]) F (S ++ [.res]) H ∧ Nxt io F H (io ++ [none]) F H := by
  have hi : ∀ (k : Nat) (a : Addr), io[k]? = some (some a) → (io ++ [none])[k]? = some (some a) := fun k a e => by
    rw [List.getElem?_append_left (List.getElem?_eq_some_iff.mp e).1]
    exact e
  have back : ∀ (k : Nat) (a : Addr), (io ++ [none])[k]? = some (some a) → io[k]? = some (some a) := fun k a e => by
    rw [List.getElem?_append] at e
    split at e
    · exact e
    · rename_i hk
      have hk2 : k - io.length = 0 := by
        have := (List.getElem?_eq_some_iff.mp e).1
        simp at this
        omega
      rw [hk2] at e
      cases e
  refine ⟨⟨by rw [List.length_append, List.length_append, st.len]; rfl, fun j k a h1 h2 => st.inj j k a (back _ _ h1) (back _ _ h2), st.sub, fun k a e => st.trk k a (back _ _ e), fun k d e => ?_⟩, ⟨hi, fun _ _ h => h, fun _ _ h _ => h, fun k a e => .inl (back _ _ e), fun _ h => h, fun _ h => .inl h⟩⟩
  rw [List.getElem?_append] at e
  split at e
  · exact (st.cel k d e).mono hi (fun _ _ z => z) (fun _ _ hn => hn) fun _ _ _ hu => hu
  · rename_i hk
    have hk2 : k - S.length = 0 := by
      have := (List.getElem?_eq_some_iff.mp e).1
      simp at this
      omega
    rw [hk2] at e
    have e' : Cell.res = d := by simpa using e
    subst e'
    have : k = io.length := by have := st.len; omega
    subst this
    show (io ++ [none])[io.length]? = some none
    simp
theorem Sta.keeps (st : Sta K io F S H) : ∀ n : Nat, Sta K (io ++ List.replicate n none) F (S ++ List.replicate n .res) H ∧ Nxt io F H (io ++ List.replicate n none) F H
  | 0 => by
    rw [List.replicate_zero, List.replicate_zero, List.append_nil, List.append_nil]
    exact ⟨st, Nxt.refl⟩
  | n + 1 => by
    obtain ⟨s, nx⟩ := Sta.keeps st n
    obtain ⟨s2, n2⟩ := s.keep
    rw [List.append_assoc, List.append_assoc, ← List.replicate_succ', ← List.replicate_succ'] at s2
    rw [List.append_assoc, ← List.replicate_succ'] at n2
    exact ⟨s2, nx.trans n2⟩
end
section
variable {X : Cx} {W : WX} {pos : Pos} {es : List Expr} {mas : MA}
end
section
variable {X : Cx} {W : WX} {pos : Pos} {mo : ME}
end
section
variable {X : Cx} {W : WX} {x : Str} {p pos : Pos} {params : Arguments} {ps : List Str} {k j : Nat} {m : MF}
end
def kyOf : P → Option (Int ⊕ List Nat)
  | .int i => some (.inl i)
  | .str x => some (.inr x)
  | _ => none
def kysOf : List P → Option (List (Int ⊕ List Nat))
  | [] => some []
  | x :: xs => (kyOf x).bind fun a => (kysOf xs).map (a :: ·)
def atKy {A : Type} (k : List (Int ⊕ List Nat)) : List (List (Int ⊕ List Nat)) → List A → Option A
  | a :: ks, x :: xs => if a = k then some x else atKy k ks xs
  | _, _ => none
theorem strOf_inj {x y : List Nat} (h : strOf x = strOf y) : x = y := by
  have := congrArg (fun s : Str => s.cps.toList) h
  simpa [strOf] using this
theorem kk_inj {a b : Int ⊕ List Nat} (h : kk a = kk b) : a = b := by
  cases a <;> cases b <;> first
    | (cases h; rfl)
    | (have := Sum.inr.inj h; rw [strOf_inj this])
    | cases h
theorem kks_inj : ∀ {a b : List (Int ⊕ List Nat)}, a.map kk = b.map kk → a = b
  | [], [], _ => rfl
  | [], _ :: _, h => by cases h
  | _ :: _, [], h => by cases h
  | x :: a, y :: b, h => by
    have h := List.cons.inj h
    rw [kk_inj h.1, kks_inj h.2]
theorem kys_rep {K : PySem.W.Frag} {F : Hp} : ∀ {xs : List P} {vs : List V} {k : List (Int ⊕ List Nat)}, RepL K F xs vs → kysOf xs = some k → vs = (k.map kk).map kV
  | [], vs, k, r, e => by
    have r : vs = [] := r
    cases e
    exact r
  | x :: xs, vs, k, ⟨v, r, e1, h1, h2⟩, e => by
    have e : ((kyOf x).bind fun a => (kysOf xs).map (a :: ·)) = some k := e
    cases hx : kyOf x with
    | none => rw [hx] at e; cases e
    | some a =>
      rw [hx] at e
      have e : (kysOf xs).map (a :: ·) = some k := e
      cases hs : kysOf xs with
      | none => rw [hs] at e; cases e
      | some ks =>
        rw [hs] at e
        cases e
        rw [e1, kys_rep h2 hs]
        have hv : v = kV (kk a) := by
          cases x <;> first
            | (cases hx; done)
            | (cases hx; exact h1)
        rw [hv]
        rfl
theorem valV_at : ∀ (ks : List (List (Int ⊕ List Nat))) (ws : List V) (k : List (Int ⊕ List Nat)), ks.length = ws.length → valV ((ks.map (List.map kk)).zip ws) (k.map kk) = atKy k ks ws
  | [], [], k, _ => rfl
  | [], _ :: _, k, h => by cases h
  | _ :: _, [], k, h => by cases h
  | a :: ks, w :: ws, k, h => by
    have ih := valV_at ks ws k (by simpa using h)
    unfold valV at ih ⊢
    show ((((a.map kk, w) :: (ks.map (List.map kk)).zip ws).find? fun kv => decide (kv.1 = k.map kk)).map (·.2)) = _
    unfold atKy
    by_cases q : a = k
    · subst q
      rw [if_pos rfl, List.find?_cons_of_pos (by simp)]
      rfl
    · rw [if_neg q, List.find?_cons_of_neg (by simp; exact fun z => q (kks_inj z))]
      exact ih
theorem atKy_some {A B : Type} {k : List (Int ⊕ List Nat)} {ks : List (List (Int ⊕ List Nat))} {xs : List A} {ws : List B} (h : xs.length = ws.length) : (atKy k ks xs).isSome = (atKy k ks ws).isSome := by
  induction ks generalizing xs ws with
  | nil => cases xs <;> cases ws <;> rfl
  | cons a ks ih =>
    cases xs with
    | nil => cases ws with
      | nil => rfl
      | cons w ws => cases h
    | cons x xs => cases ws with
      | nil => cases h
      | cons w ws =>
        unfold atKy
        by_cases q : a = k
        · rw [if_pos q, if_pos q]; rfl
        · rw [if_neg q, if_neg q]; exact ih (by simpa using h)
def dKey (S : Sto) : Vl → Option (List (Int ⊕ List Nat))
  | .c i => (match S[i]? with
    | some (.tup xs) => kysOf xs
    | _ => none)
  | _ => none
theorem Sta.key {K : PySem.W.Frag} {io : Io} {F H : Hp} {S : Sto} (st : Sta K io F S H) {d : Vl} {v : V} {k : List (Int ⊕ List Nat)} (r : RepV K io F d v) (h : dKey S d = some k) : ∃ b, v = .ref b ∧ H b = some (.tup ((k.map kk).map kV)) := by
  cases d with
  | p x => cases h
  | c i =>
    unfold dKey at h
    dsimp only at h
    split at h
    · rename_i xs hi
      obtain ⟨a, ha, rfl⟩ := r
      obtain ⟨b, vs, hb, hF, hr⟩ := st.cel i _ hi
      rw [ha] at hb
      cases hb
      have := kys_rep hr h
      subst this
      exact ⟨a, rfl, st.sub _ _ hF⟩
    · cases h
theorem Sta.dict {K : PySem.W.Frag} {io : Io} {F H : Hp} {S : Sto} (st : Sta K io F S H) {j : Nat} {v : V} {ks : List (List (Int ⊕ List Nat))} {xs : List P} (r : RepV K io F (.c j) v) (h : S[j]? = some (.dcT ks xs)) :
    ∃ a ws, v = .ref a ∧ io[j]? = some (some a) ∧ F a = none ∧ H a = some (.dT ((ks.map (List.map kk)).zip ws)) ∧ ks.length = ws.length ∧ RepL K F xs ws := by
  obtain ⟨a, ha, rfl⟩ := r
  obtain ⟨b, ws, hb, hF, hH, hl, hr⟩ := st.cel j _ h
  rw [ha] at hb
  cases hb
  exact ⟨a, ws, rfl, ha, hF, hH, hl, hr⟩
def dHas (S : Sto) (d e : Vl) : Option Bool := match dKey S d, e with
  | some k, .c j => (match S[j]? with
    | some (.dcT ks xs) => some (atKy k ks xs).isSome
    | _ => none)
  | _, _ => none
theorem Sta.has {K : PySem.W.Frag} {io : Io} {F H : Hp} {S : Sto} (st : Sta K io F S H) {d e : Vl} {v w : V} {t : Bool} (r : RepV K io F d v) (r2 : RepV K io F e w) (h : dHas S d e = some t) : ∃ a o, w = .ref a ∧ DGet H a v o ∧ o.isSome = t := by
  unfold dHas at h
  split at h
  · rename_i k j hk
    split at h
    · rename_i ks xs hj
      cases h
      obtain ⟨b, rfl, hb⟩ := st.key r hk
      obtain ⟨a, ws, rfl, ha, hF, hH, hl, hr⟩ := st.dict r2 hj
      refine ⟨a, _, rfl, DGet.t hH hb, ?_⟩
      rw [valV_at ks ws k hl]
      exact (atKy_some hr.length.symm).symm
    · cases h
  · cases h
section
variable {X : Cx} {W : WX} {a b i o v : Expr} {ma mb mi mo mv : ME} {pos pos' : Pos} {k : Nat}
theorem un1 {A : Around} (hr : Room k A) : A.units + 1 < cLine := by
  have := hr.units
  omega
end
end Mir

namespace Mir
open PySem L2
section
variable {X : Cx} {W : WX} {e : Expr} {m : ME} {k : Nat} {p1 p2 p3 p4 dpos pos : Pos} {j1 j2 j3 j4 : Nat} {x1 x2 x3 x4 : Str} {a b c d : List Nat}
end
end Mir

namespace Mir
open PySem L2 PyProof.Rows
open AutoSeq1 (wpAny_loadPart')
section
variable {prog : Program} {w : World} {A : Around} {E : Value → Shared → Prop} {s : Shared}
end
section
variable {prog : Program} {w : World} {A : Around} {E : Value → Shared → Prop} {s : Shared}
end
section
variable {X : Cx} {W : WX} {a : Expr} {ma : ME} {p pos tpos : Pos}
end
end Mir

namespace Mir
open PySem L2
section
variable {X : Cx} {W : WX} {a o : Expr} {ma mo : ME} {apos pos p : Pos}
end
end Mir

namespace Mir
open PySem L2
section
variable {K : PySem.W.Frag}
end
section
variable {X : Cx} {W : WX} {a : Expr} {ma : ME} {pos p : Pos}
end
end Mir

namespace Mir
open PySem L2 PyProof.Rows
section
variable {X : Cx} {W : WX} {a b : Expr} {ma mb : ME} {p pos tpos : Pos}
end
end Mir

namespace Mir
open PySem L2
def eCut (m : ME) : ME := fun ρ S => (m ρ S).bind fun d S1 => (frz d S1).bind fun x S2 => .ok (.p x) (S2.take S.length)
theorem oe_cut {X : Cx} {W : WX} {a : Expr} {ma : ME} (h : OE X W a ma) : OE X W a (eCut ma) := by
  obtain ⟨t, q, h⟩ := h
  refine ⟨t, q, fun ρ S io F σ H Q st en hw => h ρ S io F σ H Q st en ?_⟩
  unfold eCut at hw
  cases e : ma ρ S with
  | bad => rw [e] at hw; exact hw
  | exc c d S1 => rw [e] at hw; exact hw
  | ok d S1 =>
    rw [e] at hw
    intro io1 F1 H1 v nx s1 r1
    have hw : RG X.K (RepA X.K) ((frz d S1).bind fun x S2 => .ok (.p x) (S2.take S.length)) io F H Q _ := hw
    obtain ⟨x, S2, F2, n2, s2, rp, hz, _⟩ := s1.frz r1 (RG.step nx hw)
    rw [hz] at hw
    exact hw (io1.take S.length) F2 H1 v ((nx.trans n2).cut st.len) (s2.cut _) rp
def eDctC : ME := fun _ S => .ok (.c S.length) (S ++ [.dct [] []])
section
variable {X : Cx} {W : WX} {pos : Pos}
theorem oe_dctC : OE X W (.Dict [] [] pos) eDctC := by
  refine ⟨_, pe_dnewK, fun ρ S io F σ H Q st en hw => fun p hp => ?_⟩
  have hi : (io ++ [some p])[S.length]? = some (some p) := by rw [← st.len]; simp
  obtain ⟨s3, n3⟩ := st.push (o := .dK []) (c := .dct [] []) hp ⟨p, [], hi, Same.free st.sub hp, upd_same, .nil, .nil⟩
  exact hw _ _ _ (.ref p) n3 s3 ⟨p, hi, rfl⟩
end
def dLook (S : Sto) (e d : Vl) : Option (Option P) := match rd S e, d with
  | some (.dct ks xs), .p k => (kOf k).map fun _ => dGet k ks xs
  | _, _ => none
theorem Sta.look {K : PySem.W.Frag} {io : Io} {F H : Hp} {S : Sto} (st : Sta K io F S H) {e d : Vl} {v w : V} {z : Option P} (re : RepV K io F e v) (rk : RepV K io F d w) (h : dLook S e d = some z) :
    ∃ a o, v = .ref a ∧ DGet H a w o ∧ (z = none → o = none) ∧ ∀ x, z = some x → ∃ u, o = some u ∧ Rep K F x u := by
  unfold dLook at h
  split at h
  · rename_i ks xs k hr
    cases hk : kOf k with
    | none => rw [hk] at h; cases h
    | some kk =>
      rw [hk] at h
      cases h
      obtain ⟨a, kvs, rfl, hH, r1, r2⟩ := st.rd re hr
      have hw : w = kV kk := rep_kOf hk rk
      subst hw
      obtain ⟨g1, g2⟩ := dGet_rep hk r1 r2
      exact ⟨a, valV kvs kk, rfl, DGet.k hH, g2, g1⟩
  · cases h
def eItemK (o i : ME) : ME := fun ρ S => (o ρ S).bind fun e S1 => (i ρ S1).bind fun d S2 => match dLook S2 e d with
  | some (some x) => .ok (.p x) S2
  | _ => .bad
def dPutS (S : Sto) (y e : Vl) (x : P) : Option Sto := match e, y with
  | .c j, .p k => (match S[j]? with
    | some (.dct ks xs) => if (kOf k).isSome ∧ ks.length < 100000 then some (S.set j (.dct (dPutK k ks) (dPutV k x ks xs))) else none
    | _ => none)
  | _, _ => none
def sPutK (v o i : ME) : MS := fun ρ S => (v ρ S).go ρ fun d S1 => (o ρ S1).go ρ fun e S2 => (i ρ S2).go ρ fun y S3 => (frz d S3).go ρ fun x S4 => match dPutS S4 y e x with
  | some S5 => .ok (.nx ρ) S5
  | none => .bad
section
variable {X : Cx} {W : WX} {a b i o v f : Expr} {ma mb mi mo mv mf : ME} {pos pos' apos : Pos} {k : Nat}
theorem oe_itemK (hr : Room k X.A) (ho : OE X W o mo) (hi : OE X W i mi) (hs : NoSl i := by exact fun _ _ => rfl) : OE X W (.Subscript o i pos) (eItemK mo mi) := by
  obtain ⟨t, p, ho⟩ := ho
  obtain ⟨u, q, hi⟩ := hi
  refine ⟨_, pe_dget (un1 hr) p q hs, fun ρ S io F σ H Q st en h => ?_⟩
  refine ho ρ S io F σ H _ st en (RG.bind h fun e S1 io1 F1 H1 v e1 n1 s1 r1 h1 => ?_)
  refine hi ρ S1 io1 F1 σ H1 _ s1 (en.nxt n1) (RG.bind h1 fun d S2 io2 F2 H2 w e2 n2 s2 r2 h2 => ?_)
  cases hd : dLook S2 e d with
  | none => rw [hd] at h2; exact h2.elim
  | some z =>
    rw [hd] at h2
    obtain ⟨a, o, rfl, g, z1, z2⟩ := s2.look (r1.mono n2.han n2.fr) r2 hd
    cases z with
    | none => exact h2.elim
    | some x =>
      obtain ⟨u, rfl, ru⟩ := z2 x rfl
      exact ⟨a, u, rfl, g, RG.val (R := RepA X.K) (d := .p x) s2 ru h2⟩
theorem os_putK (hr : Room k X.A) (ho : OE X W o mo) (hi : OE X W i mi) (hv : OE X W v mv) (hs : swapsWith v (some (.Subscript o i pos')) pos.line X.env = pure false := by rfl) : OS X W (.Assign [.Subscript o i pos'] v pos) (sPutK mv mo mi) := by
  obtain ⟨t, p, ho⟩ := ho
  obtain ⟨u, q, hi⟩ := hi
  obtain ⟨u2, q2, hv⟩ := hv
  refine ⟨_, ps_dput (un1 hr) p q q2 hs, fun ρ S io F σ H D st en h => ?_⟩
  refine hv ρ S io F σ H _ st en (RS.go (R := RepA X.K) en h fun d S1 io1 F1 H1 v e1 n1 s1 r1 h1 => ?_)
  refine ho ρ S1 io1 F1 σ H1 _ s1 (en.nxt n1) (RS.go (R := RepA X.K) (en.nxt n1) h1 fun e S2 io2 F2 H2 w e2 n2 s2 r2 h2 => ?_)
  refine hi ρ S2 io2 F2 σ H2 _ s2 ((en.nxt n1).nxt n2) (RS.go (R := RepA X.K) ((en.nxt n1).nxt n2) h2 fun y S3 io3 F3 H3 w3 e3 n3 s3 r3 h3 => ?_)
  cases hf : frz d S3 with
  | bad => rw [hf] at h3; exact h3.elim
  | exc c x S4 => exact absurd hf (frz_nox _ _ _ _ _)
  | ok x S4 =>
    rw [hf] at h3
    have rd3 := (r1.mono n2.han n2.fr).mono n3.han n3.fr
    obtain ⟨x', Sd', F4, n4, s4, rp, hz4, _⟩ := s3.frz (C := Vl) (D := V) (R' := RepA X.K) (g := fun _ S => .ok (.p .non) S) (Q := fun _ _ => True) (E := fun _ _ _ => True) rd3 (by rw [hf]; exact fun _ _ _ _ _ _ _ => trivial)
    rw [hf] at hz4; cases hz4
    have h3 : RS X.K (match dPutS S4 y e x with
      | some S5 => .ok (.nx ρ) S5
      | none => .bad) io3 F3 H3 D W := h3
    cases hd : dPutS S4 y e x with
    | none => rw [hd] at h3; exact h3.elim
    | some S5 =>
      rw [hd] at h3
      unfold dPutS at hd
      split at hd
      · rename_i j ky
        split at hd
        · rename_i ks xs hj
          split at hd
          · rename_i hc
            cases hd
            obtain ⟨kq, hkq⟩ := Option.isSome_iff_exists.mp hc.1
            have hy : w3 = kV kq := rep_kOf hkq r3
            subst hy
            obtain ⟨a, ha, rfl⟩ := (r2.mono n3.han n3.fr).mono n4.han n4.fr
            obtain ⟨b, kvs, hb, hF, hH, hk1, hk2⟩ := s4.cel j _ hj
            rw [ha] at hb
            cases hb
            have hlen : kvs.length < sizeLine := by
              have e1 := hk1.length
              rw [List.length_map] at e1
              rw [e1]
              exact sz5l hc.2
            obtain ⟨j1, j2⟩ := dPut_rep hkq rp hk1 hk2
            refine ⟨a, _, rfl, DPut.k hH hlen, ?_⟩
            obtain ⟨s5, n5⟩ := s4.write (o := .dK (putK kvs kq v)) (c := .dct (dPutK ky ks) (dPutV ky x ks xs)) ha hF ⟨a, _, ha, hF, upd_same, j1, j2⟩
            exact h3 _ _ _ σ (n4.trans n5) s5 ((((en.nxt n1).nxt n2).nxt n3).nxt (n4.trans n5))
          · cases hd
        · cases hd
      · cases hd
end
section
variable {K : PySem.W.Frag}
end
section
variable {X : Cx} {W : WX} {a : Expr} {ma : ME} {pos p : Pos}
end
end Mir

namespace Mir
open PySem L2
section
variable {prog : Program} {w : World} {A : Around} {E : Value → Shared → Prop} {s : Shared}
end
section
variable {X : Cx} {W : WX} {a b : Expr} {ma mb : ME} {p p2 pos pos2 : Pos}
theorem Sta.newLst {K : PySem.W.Frag} {io : Io} {F H : Hp} {S : Sto} (st : Sta K io F S H) {q : Addr} {vs : List V} {xs : List P} (hq : H q = none) (r : RepL K F xs vs) :
    Sta K (io ++ [some q]) F (S ++ [.lst xs]) (upd H q (.lst vs)) ∧ Nxt io F H (io ++ [some q]) F (upd H q (.lst vs)) ∧ (io ++ [some q])[S.length]? = some (some q) := by
  have hi : (io ++ [some q])[S.length]? = some (some q) := by rw [← st.len]; simp
  obtain ⟨s3, n3⟩ := st.push (o := .lst vs) (c := .lst xs) hq ⟨q, vs, hi, Same.free st.sub hq, upd_same, r⟩
  exact ⟨s3, n3, hi⟩
end
end Mir

namespace Mir
open PySem L2
section
variable {K : PySem.W.Frag}
end
section
variable {X : Cx} {W : WX} {a : Expr} {ma : ME} {pos p : Pos}
end
end Mir

namespace Mir
open PySem L2
section
variable {X : Cx} {W : WX} {a b : Expr} {ma mb : ME} {p p2 pos pos2 : Pos}
end
section
variable {X : Cx} {W : WX} {pos : Pos}
end
end Mir

namespace NeK
open PySem PySem.Spec PyProof.Rows PySem.SeqAt
section
variable {M : Model} {prog : Program} {w : World} {A : Around} {E : Value → Shared → Prop} {s : Shared} {K : PySem.W.Frag} {x C f : Addr} {ox : Obj} {od : Option Obj} {b tb : Value}
theorem ifBound_objNe {args : List Value} {Q : Option Value → Shared → Prop} (X : K.In s.heap) (I : PySem.W.InstAt s.heap x ox C od) (hs : PySem.W.findIn K (.ref C) "__ne__" = some (some (.builtin "object.__ne__")))
    (h : wpAny M A (call (.builtin "object.__ne__") (.ref x :: args)) (fun v => Q (some v)) E s) : wpAny M A (callSpecialIfBound? (.ref x) "__ne__" args) Q E s := by
  simp only [callSpecialIfBound?, bindSpecialIfBound?]
  refine wpAny_holding (wpAny_bind (wpAny_bind (wpAny_bind (I.type.here ((PySem.W.looks_findIn X hs).here ?_)))))
  refine wpAny_bind (wpAny_askSetting (wpAny_ite ?_))
  have fin : wpAny M A (call (.builtin "object.__ne__") ([.ref x] ++ args) >>= fun v => pure (some v)) Q E s := wpAny_bind (wpAny_mono h (fun v s' h' => wpAny_pure h') fun _ _ h' => h')
  split
  · exact wpAny_bind (wpAny_of_eq (F.cmp_object.ne.bind _) (wpAny_pure (by exact fin)))
  · exact wpAny_tryCatch (wpAny_bind (wpAny_of_eq (F.cmp_object.ne.bind _) (wpAny_pure (by exact fin))))
theorem entry_ne {Q : Fin → Shared → Prop} (hu : A.units < cLine) (X : K.In s.heap) (I : PySem.W.InstAt s.heap x ox C od) (he : PySem.W.findIn K (.ref C) "__eq__" = some (some (.ref f))) (hf : PySem.W.isFn K (.ref f) = true)
    (h : wpAny (model prog w) A (call (.ref f) [.ref x, b]) (fun v s' => ∃ q, v = .bool q ∧ Q (.done (.ret (.bool (!q)))) s') E s) : wpAny (model prog w) A (Builtin.«object.__ne__» ⟨[.ref x, b], []⟩) Q E s := by
  unfold Builtin.«object.__ne__»
  repeat (first
    | with_reducible refine wpAny_cRoomFor hu ?_
    | (refine wpAny_bind (m := callSpecialIfBound? (.ref x) (Str.ofString "__eq__") [b])
        (PySem.W.ifBound_K X I he hf (wpAny_mono h (fun r s' hr => by
          obtain ⟨q, rfl, hq⟩ := hr
          repeat (first | exact hq | exact wpAny_pure hq | exact wpAny_truthy_bool hq | (refine wpAny_bind (m := truthy (.bool _)) (wpAny_truthy_bool ?_)) | wp_step)) fun _ _ e => e)))
    | wp_step)
theorem call_objNe {Q : Value → Shared → Prop} (hu : A.units + 1 < cLine) (X : K.In s.heap) (I : PySem.W.InstAt s.heap x ox C od) (hm : PySem.W.mroIn K C (.type "object") = some true) (he : PySem.W.findIn K (.ref C) "__eq__" = some (some (.ref f))) (hf : PySem.W.isFn K (.ref f) = true)
    (h : wpAny (model prog w) A.in1 (call (.ref f) [.ref x, b]) (fun v s' => ∃ q, v = .bool q ∧ Q (.bool (!q)) s') E s) :
    wpAny (model prog w) A (call (.builtin "object.__ne__") [.ref x, b]) Q E s :=
  wpAny_call (codeAny_call_builtin F.cmp_object.ne.plain F.cmpEntry_ne (PySem.W.check_slot F.cmpKind_ne F.cmpSplit_ne (I.type.andThen (PySem.W.looks_mroIn X hm)) (F.cmpArgs_ne _ _) (entry_ne (A := A.in1) hu X I he hf (wpAny_mono h (fun v s' hv => by
    obtain ⟨q, rfl, hq⟩ := hv
    exact ⟨q, rfl, hq⟩) fun _ _ e => e))))
theorem ne_K {Q : Value → Shared → Prop} (hu : A.units + 1 < cLine) (X : K.In s.heap) (I : PySem.W.InstAt s.heap x ox C od) (hb : PySem.W.Looks (model prog w) s.heap (typeOf b) tb) (hn : PySem.W.notFirst K C tb = true) (hs : PySem.W.findIn K (.ref C) "__ne__" = some (some (.builtin "object.__ne__"))) (hm : PySem.W.mroIn K C (.type "object") = some true)
    (he : PySem.W.findIn K (.ref C) "__eq__" = some (some (.ref f))) (hf : PySem.W.isFn K (.ref f) = true)
    (h : wpAny (model prog w) A.in1 (call (.ref f) [.ref x, b]) (fun v s' => ∃ q, v = .bool q ∧ Q (.bool (!q)) s') E s) : wpAny (model prog w) A (richCompare .NotEq (.ref x) b) Q E s := by
  have one : wpAny (model prog w) A (tryCompare (.ref x) "__ne__" b) (fun r s' => ∃ v, r = some v ∧ Q v s') E s := by
    unfold tryCompare
    refine wpAny_bind (ifBound_objNe X I hs (call_objNe hu X I hm he hf (wpAny_mono h (fun v s' hv => ?_) fun _ _ e => e)))
    obtain ⟨q, rfl, hq⟩ := hv
    exact ⟨q, rfl, wpAny_pure ⟨_, rfl, hq⟩⟩
  unfold richCompare
  simp only [oneThing_ref]
  refine wpAny_holding (wpAny_bind (wpAny_cRoomFor (Nat.lt_of_succ_lt hu) ?_))
  rw [cmpInfo_NotEq]
  dsimp only
  refine wpAny_bind (I.type.here (wpAny_bind (hb.here ?_)))
  split
  · rename_i q
    have e : PySem.W.subIn K tb (.ref C) = some false := by
      rcases Bool.or_eq_true_iff.mp hn with e | e
      · rw [beq_iff_eq.mp e] at q; simp at q
      · exact beq_iff_eq.mp e
    refine wpAny_bind ((PySem.W.looks_subIn X e).here ?_)
    simp only [Bool.false_eq_true, if_false]
    refine wpAny_bind (wpAny_mono one (fun r s' z => ?_) fun _ _ e => e)
    obtain ⟨v, rfl, hq⟩ := z
    exact wpAny_pure hq
  · refine wpAny_bind (wpAny_pure ?_)
    simp only [Bool.false_eq_true, if_false]
    refine wpAny_bind (wpAny_mono one (fun r s' z => ?_) fun _ _ e => e)
    obtain ⟨v, rfl, hq⟩ := z
    exact wpAny_pure hq
end
end NeK
namespace Mir
open PySem L2
structure NeC (K : PySem.W.Frag) (C : Addr) : Prop where
  ne : PySem.W.findIn K (.ref C) "__ne__" = some (some (.builtin "object.__ne__"))
  ob : PySem.W.mroIn K C (.type "object") = some true
def neB (K : PySem.W.Frag) (c : Str) : Bool := He.eqO (PySem.W.findIn K (.ref (He.ga K c)) "__ne__") (some (some (.builtin "object.__ne__"))) && decide (PySem.W.mroIn K (He.ga K c) (.type "object") = some true)
theorem neB_ok {K : PySem.W.Frag} {c : Str} (h : neB K c = true) : NeC K (He.ga K c) := by
  obtain ⟨h1, h2⟩ := He.ba h
  exact ⟨He.eqO_ok h1, of_decide_eq_true h2⟩
section
variable {X : Cx} {W : WX} {a b : Expr} {ma mb : ME} {x : Str} {pos : Pos} {params : Arguments} {ps : List Str} {k j : Nat} {m : MF}
end
end Mir
namespace Mir
open PySem L2
abbrev DTab := List (List Nat × P)
section
variable {X : Cx} {W : WX} {pos : Pos} {keys : List (Option Expr)} {values : List Expr}
end
section
variable {X : Cx} {W : WX} {i f : Expr} {mi mf : ME} {ti tf : TE} {x : Str} {p0 apos cpos pos : Pos} {d : Addr} {es : Array DictEntry} {n : Nat} {tab : DTab}
end
abbrev AlMT : Type := AlM × List (Option (List (Option (Str × Int))))
def obsMT (ck : PySem.W.Frag → Bool) (fn : List DefM) (ts : List He.Tab) (K : PySem.W.Frag) : AlMT := (obsM ck fn K, ts.map fun t => He.dicW K (t.1 K))
def valMT (fn : List DefM) (ts : List He.Tab) (w : World) : AlMT := (valM fn, ts.map fun t => some (He.keysIn w.params t.2))
def SaysMT (ck : PySem.W.Frag → Bool) (fn : List DefM) (ts : List He.Tab) (w : World) (K : PySem.W.Frag) : Prop := obsMT ck fn ts K = valMT fn ts w
section
variable {ck : PySem.W.Frag → Bool} {fn : List DefM} {ts : List He.Tab} {w : World} {K : PySem.W.Frag}
theorem SaysMT.m (c : SaysMT ck fn ts w K) : SaysM ck fn K := congrArg (fun z : AlMT => z.1) c
theorem SaysMT.tab (c : SaysMT ck fn ts w K) (i : Nat) {t : He.Tab} (h : ts[i]? = some t := by rfl) : ∃ es n, KDict K w (t.1 K) es n := by
  have e : ts.map (fun t => He.dicW K (t.1 K)) = ts.map fun t => some (He.keysIn w.params t.2) := congrArg (fun z : AlMT => z.2) c
  have e2 : (ts.map fun t => He.dicW K (t.1 K))[i]? = (ts.map fun t => some (He.keysIn w.params t.2))[i]? := by rw [e]
  rw [List.getElem?_map, List.getElem?_map, h] at e2
  exact He.dicW_ok (Option.some.inj e2)
end
end Mir

namespace Mir
open PySem L2
section
variable {X : Cx} {k : Nat}
end
section
variable {K : PySem.W.Frag}
end
section
variable {X : Cx} {W : WX} {a : Expr} {ma : ME} {pos p : Pos} {k : Nat}
end
end Mir

namespace EqM
open PySem PySem.Spec PyProof.Rows PySem.SeqAt
open AutoSeq1 (wpAny_loadPart')
section
variable {prog : Program} {w : World} {A : Around} {E : Value → Shared → Prop} {s : Shared} {K : PySem.W.Frag} {y C : Addr} {oy : Obj} {od : Option Obj}
theorem none_dec {Q : Value → Shared → Prop} (h : Q .notImplemented s) : wpAny (model prog w) A (call (.builtin "NoneType.__eq__") [.none, .ref y]) Q E s := by
  refine call_meetsIn (S := fun _ R s => R (.ok (.ret .notImplemented)) s) F.slot_NoneType_eq rfl F.entry_NoneType_eq (F.args_NoneType_eq_2 _ _) (fun A R s h => ?_) h
  obtain ⟨hp, g, d, tk, os⟩ := s
  wp_walk
  first | exact h | exact ⟨_, rfl, h⟩
theorem str_dec {x : Str} {t : Tok} {Q : Value → Shared → Prop} (hy : s.heap.get? y = some oy) (hd : oy.data = .plain) (h : Q .notImplemented s) : wpAny (model prog w) A (call (.builtin "str.__eq__") [.str x t, .ref y]) Q E s := by
  obtain ⟨c, dd, dt, sl⟩ := oy
  cases hd
  refine call_meetsIn (S := fun _ R s => s.heap.get? y = some ⟨c, dd, .plain, sl⟩ ∧ R (.ok (.ret .notImplemented)) s) F.slot_str_eq (typeIs_str _ _ _) F.entry_str_eq (F.args_str_eq_2 _ _) (fun A R s h => ?_) ⟨hy, h⟩
  obtain ⟨hp, g, d, tk, os⟩ := s
  obtain ⟨hl, h⟩ := h
  wp_walk using wpAny_loadPart' hl, wpAny_load hl
  first | exact h | exact ⟨_, rfl, h⟩
theorem int_dec {i : Int} {t : Tok} {Q : Value → Shared → Prop} (hy : s.heap.get? y = some oy) (hd : oy.data = .plain) (h : Q .notImplemented s) : wpAny (model prog w) A (call (.builtin "int.__eq__") [.int i t, .ref y]) Q E s := by
  obtain ⟨c, dd, dt, sl⟩ := oy
  cases hd
  refine call_meetsIn (S := fun _ R s => s.heap.get? y = some ⟨c, dd, .plain, sl⟩ ∧ R (.ok (.ret .notImplemented)) s) F.slot_int_eq (typeIs_int _ _ _) F.entry_int_eq (F.args_int_eq_2 _ _) (fun A R s h => ?_) ⟨hy, h⟩
  obtain ⟨hp, g, d, tk, os⟩ := s
  obtain ⟨hl, h⟩ := h
  wp_walk using wpAny_loadPart' hl, wpAny_load hl
  first | exact h | exact ⟨_, rfl, h⟩
theorem bool_dec {b : Bool} {Q : Value → Shared → Prop} (hy : s.heap.get? y = some oy) (hd : oy.data = .plain) (h : Q .notImplemented s) : wpAny (model prog w) A (call (.builtin "int.__eq__") [.bool b, .ref y]) Q E s := by
  obtain ⟨c, dd, dt, sl⟩ := oy
  cases hd
  refine call_meetsIn (S := fun _ R s => s.heap.get? y = some ⟨c, dd, .plain, sl⟩ ∧ R (.ok (.ret .notImplemented)) s) F.slot_bool_eq rfl F.entry_int_eq (F.args_int_eq_2 _ _) (fun A R s h => ?_) ⟨hy, h⟩
  obtain ⟨hp, g, d, tk, os⟩ := s
  obtain ⟨hl, h⟩ := h
  wp_walk using wpAny_loadPart' hl, wpAny_load hl
  first | exact h | exact ⟨_, rfl, h⟩
theorem list_dec {l : Addr} {ol : Obj} {Q : Value → Shared → Prop} (hl : s.heap.get? l = some ol) (hc : ol.cls = .type "list") (hi : PySem.W.Looks (model prog w) s.heap (isInstance (.ref y) (.type "list")) false) (h : Q .notImplemented s) : wpAny (model prog w) A (call (.builtin "list.__eq__") [.ref l, .ref y]) Q E s := by
  refine call_meetsIn (S := fun _ R s' => s' = s ∧ R (.ok (.ret .notImplemented)) s') F.slot_list_eq ⟨_, hl, hc⟩ F.entry_list_eq (F.args_list_eq_2 _ _) (fun A R s' hh => ?_) ⟨rfl, h⟩
  obtain ⟨rfl, hh⟩ := hh
  obtain ⟨hp, g, d, tk, os⟩ := s'
  wp_walk using hi.at
  exact hh
theorem tuple_dec {l : Addr} {ol : Obj} {Q : Value → Shared → Prop} (hl : s.heap.get? l = some ol) (hc : ol.cls = .type "tuple") (hi : PySem.W.Looks (model prog w) s.heap (isInstance (.ref y) (.type "tuple")) false) (h : Q .notImplemented s) : wpAny (model prog w) A (call (.builtin "tuple.__eq__") [.ref l, .ref y]) Q E s := by
  refine call_meetsIn (S := fun _ R s' => s' = s ∧ R (.ok (.ret .notImplemented)) s') F.slot_tuple_eq ⟨_, hl, hc⟩ F.entry_tuple_eq (F.args_tuple_eq_2 _ _) (fun A R s' hh => ?_) ⟨rfl, h⟩
  obtain ⟨rfl, hh⟩ := hh
  obtain ⟨hp, g, d, tk, os⟩ := s'
  wp_walk using hi.at
  exact hh
theorem dict_dec {l : Addr} {ol : Obj} {Q : Value → Shared → Prop} (hl : s.heap.get? l = some ol) (hc : ol.cls = .type "dict") (hi : PySem.W.Looks (model prog w) s.heap (isInstance (.ref y) (.type "dict")) false) (h : Q .notImplemented s) : wpAny (model prog w) A (call (.builtin "dict.__eq__") [.ref l, .ref y]) Q E s := by
  refine call_meetsIn (S := fun _ R s' => s' = s ∧ R (.ok (.ret .notImplemented)) s') F.slot_dict_eq ⟨_, hl, hc⟩ F.entry_dict_eq (F.args_dict_eq_2 _ _) (fun A R s' hh => ?_) ⟨rfl, h⟩
  obtain ⟨rfl, hh⟩ := hh
  obtain ⟨hp, g, d, tk, os⟩ := s'
  wp_walk using hi.at
  exact hh
end
end EqM

namespace EqM
open PySem PySem.Spec PyProof.Rows PySem.SeqAt
section
variable {prog : Program} {w : World} {A : Around} {E : Value → Shared → Prop} {s : Shared} {K : PySem.W.Frag} {y C f : Addr} {oy : Obj} {od : Option Obj}
theorem rc_right {T id : String} {u : Value} {Q : Value → Shared → Prop} (hu : A.units < cLine) (X : K.In s.heap) (hT : s.TypeIs u T) (slot : Slot T (cmpInfo .Eq).2.1 id) (I : PySem.W.InstAt s.heap y oy C od) (hup : PySem.W.mroIn K C (.type T) = some false) (hs : PySem.W.findIn K (.ref C) "__eq__" = some (some (.ref f))) (hf : PySem.W.isFn K (.ref f) = true)
    (hd : ∀ Q' : Value → Shared → Prop, Q' .notImplemented s → wpAny (model prog w) A (call (.builtin id) [u, .ref y]) Q' E s)
    (h : wpAny (model prog w) A (call (.ref f) [.ref y, u]) (fun v s' => ∃ q, v = .bool q ∧ Q (.bool q) s') E s) : wpAny (model prog w) A (richCompare .Eq u (.ref y)) Q E s := by
  rcases hi : cmpInfo CmpOp.Eq with ⟨sym, fn, rn⟩
  have e2 : rn = ("__eq__" : Str) := by
    have z := congrArg (fun z => z.2.2) hi
    exact z.symm
  rw [hi] at slot
  simp only [richCompare, hi, hT.oneThing_none]
  refine wpAny_holding (wpAny_bind (wpAny_cRoomFor hu ?_))
  refine wpAny_bind (wpAny_typeOf hT (wpAny_bind (I.type.here ?_)))
  rw [if_pos (show (Value.type T != Value.ref C) = true from by simp)]
  refine wpAny_bind ((PySem.W.looks_mroIn X hup).here ?_)
  simp only [Bool.false_eq_true, if_false, Bool.not_false, if_true]
  refine wpAny_bind (m := tryCompare u _ (.ref y)) (wpAny_tryCompare_declines hT slot (hd _ ⟨rfl, ?_⟩))
  refine wpAny_bind (m := tryCompare (.ref y) _ u) ?_
  subst e2
  unfold tryCompare
  refine wpAny_bind (PySem.W.ifBound_K X I hs hf (wpAny_mono h (fun v s' hv => ?_) fun _ _ e => e))
  obtain ⟨q, rfl, hq⟩ := hv
  exact wpAny_pure (wpAny_pure hq)
theorem rc_left {b tb : Value} {Q : Value → Shared → Prop} (hu : A.units < cLine) (X : K.In s.heap) (I : PySem.W.InstAt s.heap y oy C od) (hb : PySem.W.Looks (model prog w) s.heap (typeOf b) tb) (hn : PySem.W.notFirst K C tb = true) (hs : PySem.W.findIn K (.ref C) "__eq__" = some (some (.ref f))) (hf : PySem.W.isFn K (.ref f) = true)
    (h : wpAny (model prog w) A (call (.ref f) [.ref y, b]) (fun v s' => ∃ q, v = .bool q ∧ Q (.bool q) s') E s) : wpAny (model prog w) A (richCompare .Eq (.ref y) b) Q E s := by
  have one : wpAny (model prog w) A (tryCompare (.ref y) "__eq__" b) (fun r s' => ∃ v, r = some v ∧ Q v s') E s := by
    unfold tryCompare
    refine wpAny_bind (PySem.W.ifBound_K X I hs hf (wpAny_mono h (fun v s' hv => ?_) fun _ _ e => e))
    obtain ⟨q, rfl, hq⟩ := hv
    exact wpAny_pure ⟨_, rfl, hq⟩
  unfold richCompare
  simp only [oneThing_ref]
  refine wpAny_holding (wpAny_bind (wpAny_cRoomFor hu ?_))
  rw [cmpInfo_Eq]
  dsimp only
  refine wpAny_bind (I.type.here (wpAny_bind (hb.here ?_)))
  split
  · rename_i q
    have e : PySem.W.subIn K tb (.ref C) = some false := by
      rcases Bool.or_eq_true_iff.mp hn with e | e
      · rw [beq_iff_eq.mp e] at q; simp at q
      · exact beq_iff_eq.mp e
    refine wpAny_bind ((PySem.W.looks_subIn X e).here ?_)
    simp only [Bool.false_eq_true, if_false]
    refine wpAny_bind (wpAny_mono one (fun r s' z => ?_) fun _ _ e => e)
    obtain ⟨v, rfl, hq⟩ := z
    exact wpAny_pure hq
  · refine wpAny_bind (wpAny_pure ?_)
    simp only [Bool.false_eq_true, if_false]
    refine wpAny_bind (wpAny_mono one (fun r s' z => ?_) fun _ _ e => e)
    obtain ⟨v, rfl, hq⟩ := z
    exact wpAny_pure hq
end
end EqM

namespace Mir
open PySem L2
structure EqC (K : PySem.W.Frag) (C : Addr) : Prop where
  dn : ∀ n ∈ comTy, PySem.W.subIn K (.type n) (.ref C) = some false
  up : ∀ n ∈ comTy, PySem.W.mroIn K C (.type n) = some false
def eqcB (K : PySem.W.Frag) (c : Str) : Bool := (comTy.all fun n => decide (PySem.W.subIn K (.type n) (.ref (He.ga K c)) = some false)) && (comTy.all fun n => decide (PySem.W.mroIn K (He.ga K c) (.type n) = some false))
theorem eqcB_ok {K : PySem.W.Frag} {c : Str} (h : eqcB K c = true) : EqC K (He.ga K c) := by
  obtain ⟨h1, h2⟩ := He.ba h
  rw [List.all_eq_true] at h1 h2
  exact ⟨fun n hn => of_decide_eq_true (h1 n hn), fun n hn => of_decide_eq_true (h2 n hn)⟩
section
variable {X : Cx} {pins : List (Addr × Obj)} {σ : St} {H : Hp} {s : Shared}
theorem declines {v : V} {u : Value} {n : String} {y C dx : Addr} {fs : List (Str × V)} {A : Around} {E : Value → Shared → Prop} (I : Inv X pins σ H s) (rx : RelV v u) (ty : TyX X.K H v (.type n)) (hn : n ∈ comTy) (hy : H y = some (.ins C dx fs)) (up : ∀ n ∈ comTy, PySem.W.mroIn X.K C (.type n) = some false) :
    ∃ id, s.TypeIs u n ∧ Slot n (cmpInfo .Eq).2.1 id ∧ ∀ Q' : Value → Shared → Prop, Q' .notImplemented s → wpAny (model X.prog X.w) A (call (.builtin id) [u, .ref y]) Q' E s := by
  obtain ⟨mA, O, _⟩ := ins_get I.hok hy
  obtain ⟨od, J, _⟩ := O.look
  have li : ∀ n ∈ comTy, PySem.W.Looks (model X.prog X.w) s.heap (isInstance (.ref y) (.type n)) false := fun n hn => J.type.andThen (PySem.W.looks_mroIn I.kIn (up n hn))
  have lst : ∀ {a : Addr} {o : Obj}, s.heap.get? a = some o → o.cls = .type "list" → ∃ id, s.TypeIs (.ref a) "list" ∧ Slot "list" (cmpInfo .Eq).2.1 id ∧ ∀ Q' : Value → Shared → Prop, Q' .notImplemented s → wpAny (model X.prog X.w) A (call (.builtin id) [.ref a, .ref y]) Q' E s :=
    fun {a o} h1 h2 => ⟨_, ⟨o, h1, h2⟩, PySem.F.slot_list_eq, fun Q' q => EqM.list_dec h1 h2 (li _ (by decide)) q⟩
  have tup : ∀ {a : Addr} {o : Obj}, s.heap.get? a = some o → o.cls = .type "tuple" → ∃ id, s.TypeIs (.ref a) "tuple" ∧ Slot "tuple" (cmpInfo .Eq).2.1 id ∧ ∀ Q' : Value → Shared → Prop, Q' .notImplemented s → wpAny (model X.prog X.w) A (call (.builtin id) [.ref a, .ref y]) Q' E s :=
    fun {a o} h1 h2 => ⟨_, ⟨o, h1, h2⟩, PySem.F.slot_tuple_eq, fun Q' q => EqM.tuple_dec h1 h2 (li _ (by decide)) q⟩
  have dic : ∀ {a : Addr} {o : Obj}, s.heap.get? a = some o → o.cls = .type "dict" → ∃ id, s.TypeIs (.ref a) "dict" ∧ Slot "dict" (cmpInfo .Eq).2.1 id ∧ ∀ Q' : Value → Shared → Prop, Q' .notImplemented s → wpAny (model X.prog X.w) A (call (.builtin id) [.ref a, .ref y]) Q' E s :=
    fun {a o} h1 h2 => ⟨_, ⟨o, h1, h2⟩, PySem.F.slot_dict_eq, fun Q' q => EqM.dict_dec h1 h2 (li _ (by decide)) q⟩
  cases ty with
  | base b =>
    cases b with
    | non => cases (show u = Value.none from rx); exact ⟨_, rfl, PySem.F.slot_NoneType_eq, fun Q' q => EqM.none_dec q⟩
    | bl b => cases (show u = Value.bool b from rx); exact ⟨_, rfl, PySem.F.slot_bool_eq, fun Q' q => EqM.bool_dec J.at_ rfl q⟩
    | int i => obtain ⟨t, q⟩ := (show ∃ t, u = Value.int i t from rx); cases q; exact ⟨_, typeIs_int _ _ _, PySem.F.slot_int_eq, fun Q' q => EqM.int_dec J.at_ rfl q⟩
    | str i => obtain ⟨t, q⟩ := (show ∃ t, u = Value.str i t from rx); cases q; exact ⟨_, typeIs_str _ _ _, PySem.F.slot_str_eq, fun Q' q => EqM.str_dec J.at_ rfl q⟩
    | flt i => exact absurd hn (by decide)
    | @lst a xs ea =>
      cases (show u = Value.ref a from rx)
      obtain ⟨_, _, n, _, h1⟩ := (show ObjOk X.prog X.w H s.heap a (.lst xs) from I.hok a _ ea)
      exact lst h1 rfl
    | @frz a ob xs ea =>
      cases (show u = Value.ref a from rx)
      obtain ⟨_, _, _, n, _, h1⟩ := (show ObjOk X.prog X.w H s.heap a (.frz ob (.lst xs)) from I.hok a _ ea)
      exact lst h1 rfl
    | @tup a xs ea =>
      cases (show u = Value.ref a from rx)
      obtain ⟨_, _, _, p⟩ := (show ObjOk X.prog X.w H s.heap a (.tup xs) from I.hok a _ ea)
      obtain ⟨o, h1, h2, _⟩ := p
      exact tup h1 h2
    | @dK a kvs ea =>
      cases (show u = Value.ref a from rx)
      obtain ⟨_, _, vs, _, p⟩ := (show ObjOk X.prog X.w H s.heap a (.dK kvs) from I.hok a _ ea)
      obtain ⟨o, es, ep, h1, h2, _⟩ := p
      exact dic h1 h2.1
    | @dT a kvs ea =>
      cases (show u = Value.ref a from rx)
      obtain ⟨_, _, xs, _, o, es, ep, h1, h2, _⟩ := (show ObjOk X.prog X.w H s.heap a (.dT kvs) from I.hok a _ ea)
      exact dic h1 h2.1
  | byt b => exact absurd hn (by decide)
  | set e => exact absurd hn (by decide)
  | @kList a o e c => cases (show u = Value.ref a from rx); exact lst (I.kIn _ _ e) c
  | @kTuple a o e c => cases (show u = Value.ref a from rx); exact tup (I.kIn _ _ e) c
  | @kDict a o e c => cases (show u = Value.ref a from rx); exact dic (I.kIn _ _ e) c
  | @fTuple a ob xs ea =>
    cases (show u = Value.ref a from rx)
    obtain ⟨_, _, _, _, p⟩ := (show ObjOk X.prog X.w H s.heap a (.frz ob (.tup xs)) from I.hok a _ ea)
    obtain ⟨o, h1, h2, _⟩ := p
    exact tup h1 h2
  | @fDict a ob kvs ea =>
    cases (show u = Value.ref a from rx)
    obtain ⟨_, _, _, vs, _, p⟩ := (show ObjOk X.prog X.w H s.heap a (.frz ob (.dK kvs)) from I.hok a _ ea)
    obtain ⟨o, es, ep, h1, h2, _⟩ := p
    exact dic h1 h2.1
theorem tyx_looks {v : V} {u t : Value} (I : Inv X pins σ H s) (rx : RelV v u) (ty : TyX X.K H v t) : PySem.W.Looks (model X.prog X.w) s.heap (typeOf u) t := by
  obtain ⟨P, k, hp, _⟩ := kit_of I rx ty
  exact k.ty _ _ I.kIn hp
theorem meth_run {k : Nat} {f : Addr} {fd : FuncData} {ps : List Str} {m : MF} {A : Around} {E : Value → Shared → Prop} {us : List Value} {vs : List V} {Q : VK} (F : FnG X.prog X.w X.K X.mg X.base k f fd ps (spM X.K m)) (hb : Binds X.K fd ps []) (hr : RoomG k A) (e0 : Env0 X.prog X.w X.K X.mg X.base A X.stack s H)
    (I : Inv X pins σ H s) (r : Vals vs us) (q : spM X.K m vs H Q (fun _ _ _ => False)) : wpAny (model X.prog X.w) A (call (.ref f) us) (fun u s' => ∃ v H', Inv X pins σ H' s' ∧ RelV v u ∧ Q v H') E s := by
  have hl : (us ++ []).length = ps.length := by rw [List.append_nil, ← r.length]; exact F.len _ _ _ _ q
  have b := hb s us I.kIn hl
  rw [List.append_nil] at b
  have hx : Passes (L2.CX X.prog X.w) X.nox (fun _ _ _ => False) := passes_call (W := W0) takes0 fun _ _ _ _ h => h
  refine wpAny_call (codeAny_mono (F.run A X.stack s H ⟨us, []⟩ us vs _ _ hr e0 b r q) fun r s' hq => ?_)
  match r, hq with
  | .error er, hq => exact False.elim (hx pins σ H s er s' (I.wish _) hq)
  | .ok (.ret u), hq =>
    obtain ⟨v, H', I3, rv, q3⟩ := I.after hq
    exact ⟨v, H', I3, rv, q3⟩
  | .ok .next, hq => exact hq.elim
  | .ok .brk, hq => exact hq.elim
  | .ok .cont, hq => exact hq.elim
end
def boolV (neg : Bool) (r : Res Vl) : Res Vl := r.nox.bind fun d S => match d with
  | .p (.bl q) => .ok (.p (.bl (q != neg))) S
  | _ => .bad
def okTg (c : Str) : Option Tg → Bool
  | some (.b _) => true
  | some (.o c') => decide (c' = c)
  | none => false
def isBt : Option Tg → Bool
  | some (.b _) => true
  | _ => false
def eqMV (c : Str) (m : MF) (d e : Vl) (S : Sto) : Res Vl := if isC c S (nv S d) && okTg c (tgOf S (nv S e)) then boolV false (m [d, e] S) else if isC c S (nv S e) && isBt (tgOf S (nv S d)) then boolV false (m [e, d] S) else .bad
def eEqM (c : Str) (m : MF) (a b : ME) : ME := fun ρ S => (a ρ S).bind fun d S1 => (b ρ S1).bind fun e S2 => eqMV c m d e S2
def neMV (c : Str) (m : MF) (d e : Vl) (S : Sto) : Res Vl := if isC c S (nv S d) && okTg c (tgOf S (nv S e)) then boolV true (m [d, e] S) else .bad
def eNeM (c : Str) (m : MF) (a b : ME) : ME := fun ρ S => (a ρ S).bind fun d S1 => (b ρ S1).bind fun e S2 => neMV c m d e S2
def rEqL (K : PySem.W.Frag) (C : Addr) (neg : Bool) (m : MF) : R2 := fun x y H Q => ∃ a dx fs t, x = .ref a ∧ H a = some (.ins C dx fs) ∧ TyX K H y t ∧ PySem.W.notFirst K C t = true ∧ spM K m [x, y] H (fun v H' => ∃ q, v = .bl q ∧ Q (.bl (q != neg)) H') (fun _ _ _ => False)
def rEqR (K : PySem.W.Frag) (C : Addr) (m : MF) : R2 := fun x y H Q => ∃ b dx fs n, y = .ref b ∧ H b = some (.ins C dx fs) ∧ TyX K H x (.type n) ∧ n ∈ comTy ∧ spM K m [y, x] H (fun v H' => ∃ q, v = .bl q ∧ Q (.bl (q != false)) H') (fun _ _ _ => False)
section
variable {X : Cx} {W : WX} {a b : Expr} {ma mb : ME} {x : Str} {pos : Pos} {params : Arguments} {ps : List Str} {k j : Nat} {m : MF}
theorem op_eqM (G : GM X.prog X.w X.K X.mg X.base x "__eq__" params ps k m) (N : EqC X.K (He.ga X.K x)) (hr : RoomG j X.A) (hk : k + 1 ≤ j) : OpR X (compareOp .Eq) (fun v u H Q => rEqL X.K (He.ga X.K x) false m v u H Q ∨ rEqR X.K (He.ga X.K x) m v u H Q) := by
  intro pins s σ H xx yy v u Q I rx ry h
  obtain ⟨fd, F, hbd, _⟩ := G.fn
  have hu : X.A.units < cLine := (hr.mono hk).r.units0
  rcases h with ⟨a, dx, fs, t, rfl, ha, ty, nf, q⟩ | ⟨a, dx, fs, n, rfl, ha, ty, hn, q⟩
  · cases (show v = Value.ref a from rx)
    obtain ⟨mA, O, _⟩ := ins_get I.hok ha
    obtain ⟨od, J, _⟩ := O.look
    show wpAny _ _ (richCompare .Eq _ _) _ _ _
    refine EqM.rc_left hu I.kIn J (tyx_looks I ry ty) nf G.me.at_ G.me.fn (wpAny_mono (meth_run F hbd ((hr.mono hk).mono (Nat.le_succ _)) I.env0 I (.cons rx (.cons ry .nil)) q) (fun u s' hq => ?_) fun _ _ e => e)
    obtain ⟨v, H', I3, rv, qb, rfl, q3⟩ := hq
    cases (show u = Value.bool qb from rv)
    exact ⟨qb, rfl, .bl qb, H', I3, rfl, by cases qb <;> exact q3⟩
  · cases (show u = Value.ref a from ry)
    obtain ⟨mA, O, _⟩ := ins_get I.hok ha
    obtain ⟨od, J, _⟩ := O.look
    obtain ⟨id, hT, sl, dec⟩ := declines (A := X.A) (E := X.xe) I rx ty hn ha N.up
    show wpAny _ _ (richCompare .Eq _ _) _ _ _
    refine EqM.rc_right hu I.kIn hT sl J (N.up n hn) G.me.at_ G.me.fn dec (wpAny_mono (meth_run F hbd ((hr.mono hk).mono (Nat.le_succ _)) I.env0 I (.cons ry (.cons rx .nil)) q) (fun u s' hq => ?_) fun _ _ e => e)
    obtain ⟨v, H', I3, rv, qb, rfl, q3⟩ := hq
    cases (show u = Value.bool qb from rv)
    exact ⟨qb, rfl, .bl qb, H', I3, rfl, by cases qb <;> exact q3⟩
theorem op_neM (G : GM X.prog X.w X.K X.mg X.base x "__eq__" params ps k m) (N : NeC X.K (He.ga X.K x)) (hr : RoomG j X.A) (hk : k + 1 ≤ j) : OpR X (compareOp .NotEq) (rEqL X.K (He.ga X.K x) true m) := by
  intro pins s σ H xx yy v u Q I rx ry h
  obtain ⟨fd, F, hbd, _⟩ := G.fn
  obtain ⟨a, dx, fs, t, rfl, ha, ty, nf, q⟩ := h
  cases (show v = Value.ref a from rx)
  obtain ⟨mA, O, _⟩ := ins_get I.hok ha
  obtain ⟨od, J, _⟩ := O.look
  show wpAny _ _ (richCompare .NotEq _ _) _ _ _
  refine NeK.ne_K (un1 (hr.mono hk).r) I.kIn J (tyx_looks I ry ty) nf N.ne N.ob G.me.at_ G.me.fn (wpAny_mono (meth_run F hbd (hr.mono hk).in1 I.env0.in1 I (.cons rx (.cons ry .nil)) q) (fun u s' hq => ?_) fun _ _ e => e)
  obtain ⟨v, H', I3, rv, qb, rfl, q3⟩ := hq
  cases (show u = Value.bool qb from rv)
  exact ⟨qb, rfl, .bl (!qb), H', I3, rfl, by cases qb <;> exact q3⟩
theorem boolV_go {K : PySem.W.Frag} {io : Io} {F : Hp} {S : Sto} {H : Hp} {ds : List Vl} {vs : List V} {neg : Bool} {Q : VK} {E : XK} (st : Sta K io F S H) (r : RepVs K io F ds vs) (h : RG K (RepA K) (boolV neg (m ds S)) io F H Q E) : spM K m vs H (fun v H' => ∃ q, v = .bl q ∧ Q (.bl (q != neg)) H') (fun _ _ _ => False) := by
  refine ⟨io, F, S, ds, st, r, ?_⟩
  unfold boolV at h
  cases q : m ds S with
  | bad => rw [q] at h; exact h.elim
  | exc c x S2 => rw [q] at h; exact h.elim
  | ok y S2 =>
    rw [q] at h
    cases y with
    | c k => exact h.elim
    | p y =>
      cases y with
      | bl qb =>
        have h : RG K (RepA K) (.ok (.p (.bl (qb != neg))) S2) io F H Q E := h
        intro io1 F1 H1 v1 n1 s1 rv
        exact ⟨qb, rv, h io1 F1 H1 (.bl (qb != neg)) n1 s1 rfl⟩
      | _ => exact h.elim
theorem okTg_go {K : PySem.W.Frag} {io : Io} {F : Hp} {S : Sto} {H : Hp} {cs : List Str} {e : Vl} {v : V} (I : IsiC K cs) (hx : x ∈ cs) (N : ∀ n ∈ comTy, PySem.W.subIn K (.type n) (.ref (He.ga K x)) = some false) (st : Sta K io F S H) (r : RepV K io F e v) (h : okTg x (tgOf S (nv S e)) = true) : ∃ t, TyX K H v t ∧ PySem.W.notFirst K (He.ga K x) t = true := by
  cases ht : tgOf S (nv S e) with
  | none => rw [ht] at h; cases h
  | some t =>
    rw [ht] at h
    have hh := tg_cls ht
    cases t with
    | b n =>
      refine ⟨_, st.tyx I (st.nv r) ht (fun c hc => by cases hc), ?_⟩
      rcases hh with ⟨n', hn', e⟩ | ⟨c, e⟩
      · cases e
        unfold PySem.W.notFirst
        rw [Bool.or_eq_true]
        right
        rw [show tgV K (.b n) = .type n from rfl, N n hn']
        rfl
      · cases e
    | o c' =>
      have e : c' = x := of_decide_eq_true h
      subst e
      refine ⟨_, st.tyx I (st.nv r) ht (fun c hc => by cases hc; exact hx), ?_⟩
      unfold PySem.W.notFirst
      rw [Bool.or_eq_true]
      left
      exact beq_self_eq_true _
theorem eqMV_go {K : PySem.W.Frag} {io : Io} {F : Hp} {S : Sto} {H : Hp} {cs : List Str} {d e : Vl} {v u : V} {Q : VK} {E : XK} (I : IsiC K cs) (hx : x ∈ cs) (N : EqC K (He.ga K x)) (st : Sta K io F S H) (r1 : RepV K io F d v) (r2 : RepV K io F e u) (h : RG K (RepA K) (eqMV x m d e S) io F H Q E) :
    rEqL K (He.ga K x) false m v u H Q ∨ rEqR K (He.ga K x) m v u H Q := by
  unfold eqMV at h
  by_cases hc : (isC x S (nv S d) && okTg x (tgOf S (nv S e))) = true
  · rw [if_pos hc] at h
    obtain ⟨h1, h2⟩ := He.ba hc
    obtain ⟨a, dx, fs, e1, e2⟩ := st.isC (st.nv r1) h1
    obtain ⟨t, ty, nf⟩ := okTg_go I hx N.dn st r2 h2
    exact .inl ⟨a, dx, fs, t, e1, e2, ty, nf, boolV_go st (ds := [d, e]) ⟨v, _, rfl, r1, u, [], rfl, r2, rfl⟩ h⟩
  · rw [if_neg hc] at h
    by_cases hc : (isC x S (nv S e) && isBt (tgOf S (nv S d))) = true
    · rw [if_pos hc] at h
      obtain ⟨h1, h2⟩ := He.ba hc
      obtain ⟨a, dx, fs, e1, e2⟩ := st.isC (st.nv r2) h1
      cases ht : tgOf S (nv S d) with
      | none => rw [ht] at h2; cases h2
      | some t =>
        rw [ht] at h2
        cases t with
        | o c => cases h2
        | b n =>
          have ty := st.tyx I (st.nv r1) ht (fun c hc => by cases hc)
          rcases tg_cls ht with ⟨n', hn', e⟩ | ⟨c, e⟩
          · cases e
            exact .inr ⟨a, dx, fs, n, e1, e2, ty, hn', boolV_go st (ds := [e, d]) ⟨u, _, rfl, r2, v, [], rfl, r1, rfl⟩ h⟩
          · cases e
    · rw [if_neg hc] at h; exact h.elim
theorem neMV_go {K : PySem.W.Frag} {io : Io} {F : Hp} {S : Sto} {H : Hp} {cs : List Str} {d e : Vl} {v u : V} {Q : VK} {E : XK} (I : IsiC K cs) (hx : x ∈ cs) (N : EqC K (He.ga K x)) (st : Sta K io F S H) (r1 : RepV K io F d v) (r2 : RepV K io F e u) (h : RG K (RepA K) (neMV x m d e S) io F H Q E) :
    rEqL K (He.ga K x) true m v u H Q := by
  unfold neMV at h
  by_cases hc : (isC x S (nv S d) && okTg x (tgOf S (nv S e))) = true
  · rw [if_pos hc] at h
    obtain ⟨h1, h2⟩ := He.ba hc
    obtain ⟨a, dx, fs, e1, e2⟩ := st.isC (st.nv r1) h1
    obtain ⟨t, ty, nf⟩ := okTg_go I hx N.dn st r2 h2
    exact ⟨a, dx, fs, t, e1, e2, ty, nf, boolV_go st (ds := [d, e]) ⟨v, _, rfl, r1, u, [], rfl, r2, rfl⟩ h⟩
  · rw [if_neg hc] at h; exact h.elim
theorem oe_cmpG {op : CmpOp} {r : R2} {g : Vl → Vl → Sto → Res Vl} (ho : OpR X (compareOp op) r) (hg : ∀ (io : Io) (F : Hp) (S : Sto) (H : Hp) (d e : Vl) (v u : V) (Q : VK) (E : XK), Sta X.K io F S H → RepV X.K io F d v → RepV X.K io F e u → RG X.K (RepA X.K) (g d e S) io F H Q E → r v u H Q) (ha : OE X W a ma) (hb : OE X W b mb) (hm : behindInMarks op b = false := by first | exact nomark _ | rfl) :
    OE X W (.Compare a [op] [b] pos) (fun ρ S => (ma ρ S).bind fun d S1 => (mb ρ S1).bind fun e S2 => g d e S2) := by
  obtain ⟨ta, pa, ha⟩ := ha
  obtain ⟨tb, pb, hb⟩ := hb
  refine ⟨tOp r ta tb, pe_cmpR ho pa pb hm, fun ρ S io F σ H Q st en h => ?_⟩
  refine ha ρ S io F σ H _ st en (RG.bind h fun d S1 io1 F1 H1 v e1 n1 s1 r1 h1 => ?_)
  refine hb ρ S1 io1 F1 σ H1 _ s1 (en.nxt n1) (RG.bind h1 fun d2 S2 io2 F2 H2 v2 e2 n2 s2 r2 h2 => ?_)
  exact hg _ _ _ _ _ _ _ _ _ _ s2 (r1.mono n2.han n2.fr) r2 h2
theorem ot_cmpG {op : CmpOp} {r : R2} {g : Vl → Vl → Sto → Res Vl} (ho : OpR X (compareOp op) r) (hg : ∀ (io : Io) (F : Hp) (S : Sto) (H : Hp) (d e : Vl) (v u : V) (Q : VK) (E : XK), Sta X.K io F S H → RepV X.K io F d v → RepV X.K io F e u → RG X.K (RepA X.K) (g d e S) io F H Q E → r v u H Q) (ha : OE X W a ma) (hb : OE X W b mb) (hm : behindInMarks op b = false := by first | exact nomark _ | rfl) :
    OT X W (.Compare a [op] [b] pos) (tVal (fun ρ S => (ma ρ S).bind fun d S1 => (mb ρ S1).bind fun e S2 => g d e S2)) := by
  obtain ⟨ta, pa, ha⟩ := ha
  obtain ⟨tb, pb, hb⟩ := hb
  refine ⟨tTest (tOp r ta tb), pt_cmpR ho pa pb hm, fun ρ S io F σ H Q st en h => ?_⟩
  have h : RG X.K RepB ((ma ρ S).bind fun d S1 => ((mb ρ S1).bind fun y S2 => g d y S2).bind tst) io F H Q (fun c d H' => W c d σ H') := by
    unfold tVal at h
    dsimp only at h
    cases q : ma ρ S with
    | ok d S1 => rw [q] at h; exact h
    | exc c x S1 => rw [q] at h; exact h
    | bad => rw [q] at h; exact h
  refine ha ρ S io F σ H _ st en (RG.bind h fun d S1 io1 F1 H1 v e1 n1 s1 r1 h1 => ?_)
  have h1 : RG X.K RepB ((mb ρ S1).bind fun y S2 => (g d y S2).bind tst) io1 F1 H1 Q (fun c d H' => W c d σ H') := by
    cases q : mb ρ S1 with
    | ok d S1 => rw [q] at h1; exact h1
    | exc c x S1 => rw [q] at h1; exact h1
    | bad => rw [q] at h1; exact h1
  refine hb ρ S1 io1 F1 σ H1 _ s1 (en.nxt n1) (RG.bind h1 fun d2 S2 io2 F2 H2 v2 e2 n2 s2 r2 h2 => ?_)
  refine hg _ _ _ _ _ _ _ _ _ (fun c d H' => W c d σ H') s2 (r1.mono n2.han n2.fr) r2 (RG.bind h2 fun d3 S3 io3 F3 H3 v3 e3 n3 s3 r3 h3 => ?_)
  exact tst_go s3 r3 h3
theorem oe_eqM {cs : List Str} (G : GM X.prog X.w X.K X.mg X.base x "__eq__" params ps k m) (I : IsiC X.K cs) (N : EqC X.K (He.ga X.K x)) (hr : RoomG j X.A) (hk : k + 1 ≤ j) (ha : OE X W a ma) (hb : OE X W b mb) (hx : x ∈ cs := by decide) (hm : behindInMarks .Eq b = false := by first | exact nomark _ | rfl) : OE X W (.Compare a [.Eq] [b] pos) (eEqM x m ma mb) :=
  oe_cmpG (op_eqM G N hr hk) (fun _ _ _ _ _ _ _ _ _ _ st r1 r2 h => eqMV_go I hx N st r1 r2 h) ha hb hm
theorem ot_neM {cs : List Str} (G : GM X.prog X.w X.K X.mg X.base x "__eq__" params ps k m) (I : IsiC X.K cs) (N : EqC X.K (He.ga X.K x)) (N2 : NeC X.K (He.ga X.K x)) (hr : RoomG j X.A) (hk : k + 1 ≤ j) (ha : OE X W a ma) (hb : OE X W b mb) (hx : x ∈ cs := by decide) (hm : behindInMarks .NotEq b = false := by first | exact nomark _ | rfl) : OT X W (.Compare a [.NotEq] [b] pos) (tVal (eNeM x m ma mb)) :=
  ot_cmpG (op_neM G N2 hr hk) (fun _ _ _ _ _ _ _ _ _ _ st r1 r2 h => neMV_go I hx N st r1 r2 h) ha hb hm
end
end Mir

namespace Mir
open PySem PySem.Spec PyProof.Rows L2
section
variable {X : Cx}
end
section
variable {X : Cx} {W : WX} {e : Expr} {me : ME}
end
section
variable {X : Cx} {W : WX} {pos : Pos}
end
section
variable {K : PySem.W.Frag}
end
section
variable {X : Cx} {W : WX} {a : Expr} {ma : ME} {pos p : Pos}
end
section
variable {X : Cx} {W : WX} {a : Expr} {ma : ME} {x : Str} {pos p : Pos} {params : Arguments} {ps : List Str} {k j : Nat} {m : MF}
end
end Mir

namespace Mir
open PySem L2
section
variable {X : Cx} {W : WX} {mks : MA} {x : Str} {p pos : Pos} {params : Arguments} {ps ks : List Str} {k j : Nat} {m : MF} {kws : List Keyword} {kp : Bool}
end
end Mir

namespace Mir
open PySem L2
section
variable {X : Cx} {pins : List (Addr × Obj)} {σ : St} {H F : Hp} {s : Shared}
end
section
variable {X : Cx} {W : WX} {pos : Pos}
end
end Mir

namespace Mir
open PySem L2
def DnAt (K : PySem.W.Frag) (η : NestedKey → Int) (H : Hp) (a : Addr) (es : List (NestedKey × Addr × V)) : Prop := ∃ F ks, Same F H ∧ H a = some (DNo η a es) ∧ nkL ks = some (es.map (·.1)) ∧ RepL K F ks (es.map fun e => V.ref e.2.1)
section
variable {X : Cx} {pins : List (Addr × Obj)} {σ : St} {H : Hp} {s : Shared} {a b : Addr} {es : List (NestedKey × Addr × V)} {k : NestedKey}
end
noncomputable def sameH (a b : NestedKey → Int) : Bool := @decide (a = b) (Classical.propDecidable _)
theorem sameH_ok {a b : NestedKey → Int} (h : sameH a b = true) : a = b := @of_decide_eq_true _ (Classical.propDecidable _) h
noncomputable def isDN (η : NestedKey → Int) (S : Sto) : Vl → Bool
  | .c j => (match S[j]? with
    | some (.dcN η' _ _) => sameH η' η
    | _ => false)
  | _ => false
theorem Sta.dn {K : PySem.W.Frag} {io : Io} {F H : Hp} {S : Sto} {η : NestedKey → Int} (st : Sta K io F S H) {d : Vl} {v : V} (r : RepV K io F d v) (h : isDN η S d = true) : ∃ a es, v = .ref a ∧ DnAt K η H a es := by
  cases d with
  | p x => cases h
  | c j =>
    unfold isDN at h
    dsimp only at h
    split at h
    · rename_i η' ks xs hk
      have e : η' = η := sameH_ok h
      subst e
      obtain ⟨a, ha, rfl⟩ := r
      obtain ⟨b, es, hb, hF, hH, h1, h2, h3⟩ := st.cel j _ hk
      rw [ha] at hb; cases hb
      exact ⟨a, es, rfl, F, ks, st.sub, hH, h1, h2⟩
    · cases h
section
variable {X : Cx} {W : WX} {o e f : Expr} {mo me mf : ME} {td ty tx : TE} {apos cpos : Pos} {j : Nat}
end
end Mir

namespace Mir
open PySem L2
section
variable {X : Cx} {W : WX} {o e f : Expr} {mo me mf : ME} {td ty tx : TE} {apos cpos pos p mpos : Pos} {j : Nat}
end
section
variable {K : PySem.W.Frag} {io io1 : Io} {F F1 H H1 : Hp} {S S1 : Sto} {Q : VK} {E : XK}
end
section
variable {P : Program} {w : World} {K : PySem.W.Frag} {mg : Str → Option Value} {base : Heap} {x qual : Str} {params : Arguments} {body : List Stmt} {scope : Scope} {dvs : List V} {kws : List (Str × V)} {f : Addr} {fd : FuncData} {N ps : List Str} {k nl : Nat} {m : MS}
end
end Mir

namespace Mir
open PySem L2
section
variable {X : Cx} {W : WX} {tg iter : Expr} {me : ME} {m : MS} {pos : Pos}
end
section
variable {K : PySem.W.Frag} {Q : VK} {E : XK}
end
section
variable {X : Cx} {W : WX} {elt tg iter : Expr} {ifs : List Expr} {scope : Scope} {own : List (Str × Nat)} {pos : Pos} {me : ME} {js : List Nat} {g : MG} {t : MT} {e : ME}
end
end Mir

namespace Mir
open PySem PySem.Spec L2 PySem.Builtin PySem.Builtin.ObjectAttr
section
variable {prog : Program} {w : World} {A : Around} {E : Value → Shared → Prop} {R : Result → Shared → Prop} {hp : Heap} {g : Array GenState} {d : Drawn} {t : Nat} {os : OsState}
end
section
variable {X : Cx} {pins : List (Addr × Obj)} {σ : St} {H : Hp} {s : Shared} {a C dx : Addr} {f : Str} {y : V} {u : Value} {fs : List (Str × V)} {Q : Unit → Shared → Prop} {E : Value → Shared → Prop} {A : Around}
end
section
variable {X : Cx} {o e : Expr} {es : List Expr} {to te : TE} {ta : TA} {f : Str} {p p' p1 p2 pos : Pos}
end
end Mir

namespace Mir
open PySem PySem.Spec PyProof.Rows
abbrev Cls1 := Value × Option Nat × (Addr → Value → Option Addr → L2.TS)
end Mir
namespace PySem.W
open PySem PySem.Spec PySem.Calls PyProof.Rows
end PySem.W
namespace L2
open PySem PySem.Spec PyProof.Rows
section
variable {X : Cx} {body : List Stmt} {h₀ : ExceptHandler} {hds : List ExceptHandler} {l : List Mir.Cls1} {pos : Pos} {tb : WX → TS} {Wout : WX}
end
end L2

namespace PySem.W
open PySem PySem.Spec PySem.Calls PyProof.Rows
section
variable {prog : Program} {w : World} {A : Around} {E : Value → Shared → Prop} {s : Shared} {K : Frag} {x D : Addr} {ox : Obj} {od : Option Obj}
end
end PySem.W
namespace Mir
open PySem L2
end Mir

namespace Mir
open PySem L2
abbrev Sb := List (Str × Str × Bool)
theorem Env.len {K : PySem.W.Frag} {io : Io} {F : Hp} : ∀ {ρ : En} {σ : L2.St}, Mir.Env K io F ρ σ → σ.length = ρ.length
  | [], σ, h => by
    have h : σ = [] := h
    rw [h]
    rfl
  | d :: ρ, σ, h => by
    obtain ⟨o, r, e, _, t⟩ := h
    rw [e, List.length_cons, List.length_cons, Env.len t]
end Mir

namespace Mir
open PySem L2
theorem XRep.nxt {K : PySem.W.Frag} {io io1 : Io} {F F1 H H1 : Hp} {x : XD} {d : Option Addr} (n : Nxt io F H io1 F1 H1) (h : XRep K F H x d) : XRep K F1 H1 x d := by
  cases x with
  | none => exact h
  | some q =>
    obtain ⟨ns, xs⟩ := q
    obtain ⟨a, gs, e, ha, hn, r⟩ := h
    exact ⟨a, gs, e, n.fr _ _ ha, hn, RepL.mono n.fr r⟩
structure SX (K : PySem.W.Frag) (i : Nat) (a : Addr) (d : Option Addr) (x : XD) (F H : Hp) (σ : L2.St) : Prop where
  sl : σ[i]? = some (some (.ref a))
  xr : XRep K F H x d
theorem SX.nxt {K : PySem.W.Frag} {i : Nat} {a : Addr} {d : Option Addr} {x : XD} {io io1 : Io} {F F1 H H1 : Hp} {σ : L2.St} (s : SX K i a d x F H σ) (n : Nxt io F H io1 F1 H1) : SX K i a d x F1 H1 σ := ⟨s.sl, s.xr.nxt n⟩
section
variable (X : Cx) (i : Nat)
end
section
variable {X : Cx} {i : Nat} {e a b cc : Expr} {es : List Expr} {m ma mb : Str → XD → ME} {mt mu : Str → XD → MT} {mas : Str → XD → MA} {pos p : Pos}
end
end Mir

namespace Mir
open PySem PySem.Spec PyProof.Rows LamX
section
variable {X : L2.Cx} {pins : List (Addr × Obj)} {σ : L2.St} {H : L2.Hp} {s : Shared}
inductive TabStep (H : L2.Hp) (P : Addr) (ps : Array Value) (q : Str) (c' : Addr) : L2.Hp → Prop
  | hit (h : H c' = some (CodeO c' q)) (pos : Pos) (e : codeAmong pos ps.toList = some (.ref c')) : TabStep H P ps q c' H
  | new (more : Array Value) (h : H c' = none) (t : TriplesOk (ps ++ more).toList) (a : ∀ (p : Pos) (cv : Value), codeAmong p (ps ++ more).toList = some cv → codeAmong p ps.toList = some cv ∨ cv = .ref c') : TabStep H P ps q c' (L2.upd (L2.upd H P (.tbl (ps ++ more))) c' (CodeO c' q))
end
open L2 in
theorem Sta.tab {K : PySem.W.Frag} {io : Io} {F H H1 : L2.Hp} {S : Sto} {k : Nat} {x : Str} {c' : Addr} {q : Str} {ps : Array Value} (st : Sta K io F S H) (hk : S[k]? = some (.tbl x q)) (hP0 : H (lamT K x) = some (.tbl ps)) (h0 : TabStep H (lamT K x) ps q c' H1) :
    ∃ F1, Nxt io F H io F1 H1 ∧ Sta K io F1 S H1 ∧ F1 c' = some (CodeO c' q) := by
  obtain ⟨P, eP⟩ : ∃ P, P = lamT K x := ⟨_, rfl⟩
  have hP : H P = some (.tbl ps) := by rw [eP]; exact hP0
  have h : TabStep H P ps q c' H1 := by rw [eP]; exact h0
  obtain ⟨h1, h2, ps', h3, h4, h5⟩ := st.cel k _ hk
  rw [← eP] at h1 h2 h3
  rw [hP] at h3
  cases h3
  cases h with
  | hit hc pos e =>
    obtain ⟨c, e1, e2⟩ := h5 pos _ e
    cases e1
    exact ⟨F, Nxt.refl, st, e2⟩
  | new more hc ht ha =>
    obtain ⟨s1, n1⟩ := st.froze (o := CodeO c' q) hc
    have hne : P ≠ c' := fun z => by rw [z, hc] at hP; cases hP
    have hF1 : upd F c' (CodeO c' q) P = none := by rw [upd_ne hne]; exact h2
    have key : CellAt K io (upd F c' (CodeO c' q)) (upd (upd H c' (CodeO c' q)) P (.tbl (ps ++ more))) k (.tbl x q) := by
      show io[k]? = some (some (lamT K x)) ∧ _ ∧ _
      rw [← eP]
      refine ⟨h1, hF1, ps ++ more, upd_same, ht, fun p cv e => ?_⟩
      rcases ha p cv e with z | z
      · obtain ⟨c, e1, e2⟩ := h5 p cv z
        exact ⟨c, e1, n1.fr _ _ e2⟩
      · exact ⟨c', z, upd_same⟩
    have hH : upd (upd H c' (CodeO c' q)) P (.tbl (ps ++ more)) = upd (upd H P (.tbl (ps ++ more))) c' (CodeO c' q) := by
      funext b
      by_cases q1 : b = P
      · subst q1
        rw [upd_same, upd_ne hne, upd_same]
      · rw [upd_ne q1]
        by_cases q2 : b = c'
        · subst q2
          rw [upd_same, upd_same]
        · rw [upd_ne q2, upd_ne q2, upd_ne q1]
    obtain ⟨s2, n2⟩ := s1.write h1 hF1 key
    rw [hH] at s2 n2
    rw [show S.set k (.tbl x q) = S from List.ext_getElem? fun j => by
      by_cases hj : j = k
      · subst hj
        rw [List.getElem?_set_self (List.getElem?_eq_some_iff.mp hk).1, hk]
      · rw [List.getElem?_set_ne (Ne.symm hj)]] at s2
    exact ⟨_, n1.trans n2, s2, upd_same⟩
end Mir

namespace Mir
open PySem PySem.Spec PyProof.Rows LamX
section
variable {X : L2.Cx} {pins : List (Addr × Obj)} {σ : L2.St} {H : L2.Hp} {s : Shared}
end
end Mir
namespace Mir
open PySem L2
end Mir

namespace Mir
open PySem L2
end Mir

namespace Mir
open PySem L2
end Mir

namespace Mir
open PySem L2
end Mir

namespace Mir
open PySem L2
end Mir

namespace Mir
open PySem PySem.Spec L2
section
variable {P : Program} {w : World} {K : PySem.W.Frag} {mg : Str → Option Value} {base : Heap} {x qual : Str} {params : Arguments} {body : List Stmt} {scope : Scope} {dvs : List V} {kws : List (Str × V)} {f : Addr} {fd : FuncData} {N ps : List Str} {k nl : Nat} {m : MS}
end
structure Sub (X : Cx) (A : Around) : Prop where
  fr : A.frames = X.A.frames
  dp : A.depth + 3 * 1 + 5 < recursionLimit
  un : A.units + 16 * 1 + 200 < cLine
section
variable {X : Cx} {A : Around} {c : Str} {m : MF} {pins : List (Addr × Obj)} {σ : St} {H : Hp} {s : Shared} {b dx : Addr} {fs : List (Str × V)} {Q : Str → Shared → Prop} {Q' : Str → Hp → Prop} {E : Value → Shared → Prop} {n : Nat}
end
section
variable {X : Cx} {A : Around} {pins : List (Addr × Obj)} {σ : St} {H : Hp} {s : Shared} {a : Addr} {v : V} {Q : Value → Shared → Prop} {Q' : Str → Hp → Prop} {E : Value → Shared → Prop}
end
section
variable {X : Cx} {tb : List (Str × MF)}
end
structure RoomR (A : Around) : Prop where
  dp : A.depth + 3 * 1 + 8 < recursionLimit
  un : A.units + 16 * 1 + 211 < cLine
  gd : A.guards = some []
theorem RoomG.rr {k : Nat} {A : Around} (h : RoomG k A) (hk : 2 ≤ k) : RoomR A := ⟨by have := h.r.dp; omega, by have := h.r.un; omega, h.gd⟩
section
variable {X : Cx} {tb : List (Str × MF)}
end
section
variable {X : Cx} {W : WX} {tb : List (Str × MF)} {a : Expr} {ma : ME} {pos p : Pos} {k i : Nat} {mx : Str → XD → ME}
end
end Mir

namespace Mir
open PySem L2
section
variable {K : PySem.W.Frag}
end
section
variable {X : Cx} {W : WX} {a o : Expr} {ma mo : ME} {pos p apos : Pos}
end
end Mir

namespace Mir
open PySem L2
section
variable {X : Cx} {W : WX} {a b : Expr} {ma mb : ME} {pos : Pos}
end
end Mir

namespace Mir
open PySem L2
section
variable {X : Cx} {W : WX} {a b : Expr} {ma mb : ME} {x x2 : Str} {pos : Pos} {params params2 : Arguments} {ps ps2 : List Str} {k k2 j : Nat} {m m2 : MF}
end
end Mir

namespace Mir
open PySem PySem.Spec PyProof.Rows LamX
open L2 (Cx Hp Inv V RelV)
structure LamS1 (sc scope : Scope) (p : Str) : Prop where
  kind : scope.kind = .function
  co : scope.isCoroutine = false
  gen : scope.isGenerator = false
  par : scope.names.lookup p = some .local
  own : ∀ y ∈ scope.names, (y.2 = .local → y.1 = p) ∧ y.2 ≠ .cell
  free : ∀ y ∈ scope.names, y.2 = .free → sc.names.lookup y.1 = some .cell ∨ sc.names.lookup y.1 = some .free
theorem LamS1.has {X : Cx} {scope : Scope} {p : Str} (L : LamS1 X.env.scope scope p) (ok : X.Ok) : ∀ y ∈ scope.names, y.2 = .free → ∃ c, X.env.cells.lookup y.1 = some c := fun y hy e => by
  rcases L.free y hy e with k | k
  · exact ok.has _ (.inl k)
  · exact ok.has _ (.inr k)
section
variable {X : Cx} {pins : List (Addr × Obj)} {σ : L2.St} {H HZ : Hp} {s s1 : Shared}
end
end Mir

namespace Mir
open PySem L2
end Mir

namespace Mir
open PySem L2
def LotsR (K : PySem.W.Frag) (F H : Hp) (Ok : Addr → Prop) (m : Nat) : List P → List (List P) → List (NestedKey × Addr × V) → Prop
  | [], [], [] => True
  | kk :: ks, l :: ls, e :: es => nkOf kk = some e.1 ∧ Rep K F kk (.ref e.2.1) ∧ (∃ b vs, e.2.2 = .ref b ∧ H b = some (.lst vs) ∧ RepL K F l vs ∧ Ok b ∧ l.length ≤ m) ∧ LotsR K F H Ok m ks ls es
  | _, _, _ => False
section
variable {K : PySem.W.Frag} {F F' H H' : Hp} {Ok Ok' : Addr → Prop} {m m' : Nat}
theorem LotsR.mono (hF : Same F F') (hH : ∀ b o, Ok b → H b = some o → H' b = some o) (hO : ∀ b o, Ok b → H b = some o → Ok' b) (hm : m ≤ m') : ∀ {ks : List P} {ls : List (List P)} {es : List (NestedKey × Addr × V)}, LotsR K F H Ok m ks ls es → LotsR K F' H' Ok' m' ks ls es
  | [], [], [], _ => trivial
  | kk :: ks, l :: ls, e :: es, ⟨h1, h2, ⟨b, vs, e1, h3, h4, h5, h6⟩, h7⟩ => ⟨h1, Rep.mono hF h2, ⟨b, vs, e1, hH _ _ h5 h3, RepL.mono hF h4, hO _ _ h5 h3, Nat.le_trans h6 hm⟩, LotsR.mono hF hH hO hm h7⟩
  | [], [], _ :: _, h => h.elim
  | [], _ :: _, _, h => h.elim
  | _ :: _, [], _, h => h.elim
  | _ :: _, _ :: _, [], h => h.elim
theorem LotsR.keys : ∀ {ks : List P} {ls : List (List P)} {es : List (NestedKey × Addr × V)}, LotsR K F H Ok m ks ls es → nkL ks = some (es.map (·.1)) ∧ RepL K F ks (es.map fun e => .ref e.2.1) ∧ ks.length = es.length
  | [], [], [], _ => ⟨rfl, .nil, rfl⟩
  | kk :: ks, l :: ls, e :: es, ⟨h1, h2, _, h7⟩ => by
    obtain ⟨a, b, c⟩ := LotsR.keys h7
    refine ⟨?_, .cons h2 b, by rw [List.length_cons, List.length_cons, c]⟩
    show (match nkOf kk, nkL ks with
      | some k, some ks => some (k :: ks)
      | _, _ => none) = _
    rw [h1, a]
    rfl
  | [], [], _ :: _, h => h.elim
  | [], _ :: _, _, h => h.elim
  | _ :: _, [], _, h => h.elim
  | _ :: _, _ :: _, [], h => h.elim
end
section
variable {K : PySem.W.Frag} {io io1 : Io} {F F1 H H1 : Hp} {S : Sto}
end
end Mir

namespace Mir
open PySem L2
theorem set_same {A : Type} : ∀ {l : List A} {i : Nat} {a : A}, l[i]? = some a → l.set i a = l
  | [], _, _, h => by simp at h
  | x :: l, 0, a, h => by
    have : x = a := by simpa using h
    rw [this]
    rfl
  | x :: l, i + 1, a, h => by
    show x :: l.set i a = x :: l
    rw [set_same (by simpa using h)]
theorem Nxt.fresh {K : PySem.W.Frag} {io io1 : Io} {F F1 H H1 : Hp} {q : Addr} (n : Nxt io F H io1 F1 H1) (h : H1 q = none) : H q = none := n.stay q h
section
variable {X : Cx} {W : WX} {x y : Str} {i j k0 : Nat} {iter ke : Expr} {it : MI} {key : ME} {rest : List Stmt} {mrest : MS} {p1 p2 p3 p4 p5 p6 p7 p8 p9 p10 p11 p12 p13 : Pos}
end
end Mir

namespace Mir
open PySem L2
end Mir

namespace Mir
open PySem PySem.Spec PyProof.Rows LamX
open L2 (Cx Hp Inv V RelV)
section
variable {X : Cx} {pins : List (Addr × Obj)} {σ : L2.St} {H HZ : Hp} {s s1 : Shared}
end
end Mir

namespace Mir
open PySem L2
theorem Sta.swap {K : PySem.W.Frag} {io : Io} {F H : Hp} {S : Sto} {k : Nat} {c c' : Cell} (st : Sta K io F S H) (hk : S[k]? = some c) (h : CellAt K io F H k c → CellAt K io F H k c') : Sta K io F (S.set k c') H := by
  refine ⟨by rw [List.length_set]; exact st.len, st.inj, st.sub, st.trk, fun j d e => ?_⟩
  by_cases hj : j = k
  · subst hj
    rw [List.getElem?_set_self (List.getElem?_eq_some_iff.mp hk).1] at e
    cases e
    exact h (st.cel _ _ hk)
  · rw [List.getElem?_set_ne (Ne.symm hj)] at e
    exact st.cel j d e
structure LamP where
  f : Addr
  c : Addr
  jx : Nat
  by_ : Str
  q : Str
  w : Vl → Sto → Res Vl
section
variable {X : Cx} {W : WX} {x q mk p : Str} {c : Addr} {k kG jx : Nat} {G : LamP → MF} {gparams params : Arguments} {ps : List Str} {e1 e2 body : Expr} {scope : Scope} {p1 lpos pos : Pos} {m1 m2 mb : ME}
end
end Mir

namespace Mir
open PySem L2
section
variable {X : Cx} {W : WX} {e : Expr} {es : List Expr} {mas : MA} {x : Str} {p pos : Pos} {params : Arguments} {ps : List Str} {k j : Nat} {m : MF}
end
end Mir

namespace Mir
open PySem L2
def dfB (K : PySem.W.Frag) (dV : Value) (ds : List P) : Bool := match dV with
  | .ref T => (match K.lookup T with
    | some ⟨_, _, .seq its _, _⟩ => repKs K ds its.toList
    | _ => false)
  | _ => false
def ParD (K : PySem.W.Frag) (fd : FuncData) (params : Arguments) (ds : List P) : Prop := ∃ (x qual : Str) (body : List Stmt) (scope : Scope) (T : Addr) (o : Obj) (its : List Value) (n : Nat) (kV doc pm : Value) (an : Option Addr) (cdv ct : Value) (vs : List V),
  fd = PySem.W.fnOf x qual params body scope (.ref T) kV doc pm an cdv ct ∧ K.lookup T = some o ∧ o.data = .seq its.toArray n ∧ Vals vs its ∧ ∀ F, RepL K F ds vs
structure FunDD (K : PySem.W.Frag) (ds : List P) (x qual : Str) (params : Arguments) (body : List Stmt) (scope : Scope) (f : Addr) (fd : FuncData) : Prop where
  dv : ∃ dvs, FunD K x qual params body scope dvs [] f fd
  par : ParD K fd params ds
structure DefMD where
  d : DefM
  ds : List P
def DefMD.ok (K : PySem.W.Frag) (q : DefMD) : Bool := PySem.W.keepIn K (.ref (q.d.ad K)) && ((match K.lookup (q.d.ad K) with
  | some ⟨_, _, .func fd, _⟩ => PySem.W.codeIn K fd.code q.d.qual && dfB K fd.defaults q.ds
  | _ => false) && !q.ds.isEmpty)
theorem DefMD.funD {K : PySem.W.Frag} {q : DefMD} (e : fnM K (q.d.ad K) = q.d.val) (c : q.ok K = true) : ∃ fd, FunDD K q.ds q.d.name q.d.qual q.d.params q.d.body q.d.scope (q.d.ad K) fd := by
  obtain ⟨d, ds⟩ := q
  unfold DefMD.ok at c
  rw [Bool.and_eq_true] at c
  obtain ⟨hk, c⟩ := c
  rw [Bool.and_eq_true] at c
  obtain ⟨c, hne⟩ := c
  unfold fnM at e
  dsimp only at c e hk hne ⊢
  cases q : K.lookup (d.ad K) with
  | none => rw [q] at c; cases c
  | some o =>
    obtain ⟨oc, od, dt, osl⟩ := o
    rw [q] at c e
    cases dt with
    | func fd =>
      obtain ⟨n1, n2, n3, n4, n5, n6, n7, n8, n9, n10, n11, n12, n13, n14, n15⟩ := fd
      have e2 : (some (n1, n2, n3, n4, n5, n6, n7, n15) : He.FnW) = some (d.name, d.qual, d.params, .stmts d.body, d.scope, mainGlobals, [], builtinsNs) := e
      simp only [Option.some.injEq, Prod.mk.injEq] at e2
      obtain ⟨h1, h2, h3, h4, h5, h6, h7, h9⟩ := e2
      subst h1 h2 h3 h4 h5 h6 h7 h9
      dsimp only at c
      rw [Bool.and_eq_true] at c
      obtain ⟨c1, c2⟩ := c
      unfold dfB at c2
      split at c2
      · rename_i T
        split at c2
        · rename_i cT dT its nT sT hT
          obtain ⟨vs, v1, v2⟩ := repKs_ok c2
          have hv : vs ≠ [] := by
            have l1 := (v2 (fun _ => none)).length
            intro z
            rw [z] at l1
            cases ds with
            | nil => cases hne
            | cons _ _ => simp at l1
          refine ⟨_, ⟨vs, ⟨oc, od, _, _, _, _, _, _, _, osl, rfl, q, c1, .inr ⟨hv, T, _, its.toList, nT, rfl, hT, rfl, v1⟩, .inl rfl⟩, hk⟩, _, _, _, _, T, _, its.toList, nT, _, _, _, _, _, _, vs, rfl, hT, rfl, v1, v2⟩
        · cases c2
      · cases c2
    | _ => cases c
structure GFD (Pg : Program) (w : World) (K : PySem.W.Frag) (mg : Str → Option Value) (base : Heap) (x : Str) (params : Arguments) (ps : List Str) (ds : List P) (k : Nat) (m : MF) : Prop where
  gl : mg x = some (.ref (He.ga K x))
  kp : PySem.W.keepIn K (.ref (He.ga K x)) = true
  fn : ∃ fd, FnG Pg w K mg base k (He.ga K x) fd ps (spM K m) ∧ ParD K fd params ds
def KwD (params : Arguments) (ps ks : List Str) (n nd : Nat) (pm : List Nat) : Prop := ∀ (x qual : Str) (body : List Stmt) (scope : Scope) (T : Addr) (kV doc pmv : Value) (an : Option Addr) (cdv ct : Value) (us ws its : List Value), us.length = n → ws.length = ks.length → its.length = nd →
  ∃ g, bindArgs (PySem.W.fnOf x qual params body scope (.ref T) kV doc pmv an cdv ct) ⟨us, ks.zip ws⟩ = seqItems? (.ref T) >>= g ∧ g (some its.toArray) = pure (ps.zip (permL .none pm (us ++ ws ++ its)))
section
variable {X : Cx} {W : WX} {e : Expr} {es : List Expr} {mas mks : MA} {x : Str} {p pos : Pos} {params : Arguments} {ps ks : List Str} {ds : List P} {k j n : Nat} {m : MF} {kws : List Keyword} {pm : List Nat}
end
end Mir

namespace Mir
open PySem L2
section
variable {X : Cx} {W : WX} {pos : Pos} {keys : List (Option Expr)} {values : List Expr}
end
end Mir

namespace Mir
open PySem L2
section
variable {X : Cx} {W : WX} {a o : Expr} {ma mo : ME} {apos pos : Pos}
def eCpyC (m : ME) : ME := fun ρ S => (m ρ S).bind fun d S1 => match Mir.rd S1 d with
  | some (.lst xs) => .ok (.c S1.length) (S1 ++ [.lst xs])
  | some (.tup xs) => .ok (.c S1.length) (S1 ++ [.lst xs])
  | _ => .bad
theorem oe_cpyC {p : Pos} (hm : X.mg "list" = none) (ha : OE X W a ma) (hg : Gl X "list" := by rfl) (hs : starEach [a] X.env = (false, eval a X.env) :: starEach [] X.env := by rfl) : OE X W (.Call (.Name "list" p) [a] [] pos) (eCpyC ma) := by
  obtain ⟨t, q, ha⟩ := ha
  refine ⟨_, pe_callTy call_list_of hg hm (by decide +kernel) (pa_cons q pa_nil hs) (by decide) (by decide) hs rfl, fun ρ S io F σ H Q st en h => ?_⟩
  refine ha ρ S io F σ H _ st en (RG.bind h fun d S1 io1 F1 H1 v e1 n1 s1 r1 h1 => ?_)
  cases hr : Mir.rd S1 d with
  | none => rw [hr] at h1; exact h1.elim
  | some x =>
    rw [hr] at h1
    cases x with
    | lst xs =>
      obtain ⟨l, vs, rfl, hH, rl⟩ := s1.rd r1 hr
      refine ⟨l, vs, rfl, .inl (SqL.of hH), fun q hq => ?_⟩
      obtain ⟨s3, n3, hi⟩ := s1.newLst hq rl
      exact h1 _ _ _ (.ref q) n3 s3 ⟨q, hi, rfl⟩
    | tup xs =>
      obtain ⟨l, vs, rfl, hH, rl⟩ := s1.rd r1 hr
      refine ⟨l, vs, rfl, .inr (sqt_mono s1.sub hH), fun q hq => ?_⟩
      obtain ⟨s3, n3, hi⟩ := s1.newLst hq rl
      exact h1 _ _ _ (.ref q) n3 s3 ⟨q, hi, rfl⟩
    | _ => exact h1.elim
end
end Mir

namespace Mir
open PySem PySem.Spec PyProof.Rows L2
section
variable {K : PySem.W.Frag} {io io1 : Io} {F F1 H H1 : Hp} {S S1 : Sto} {Q : VK} {E : XK}
variable {X : Cx}
end
section
variable {X : Cx} {W : WX} {a o : Expr} {ma mo : ME} {apos pos p : Pos}
end
section
variable {K : PySem.W.Frag} {io io1 : Io} {F F1 H H1 : Hp} {S S1 : Sto} {Q : VK} {E : XK}
end
section
variable {P : Program} {w : World} {K : PySem.W.Frag} {mg : Str → Option Value} {base : Heap} {x qual : Str} {params : Arguments} {body : List Stmt} {scope : Scope} {dvs : List V} {kws : List (Str × V)} {f : Addr} {fd : FuncData} {N ps : List Str} {k nl : Nat} {m : MS}
end
end Mir

namespace HT
open PySem PySem.Spec PyProof.Rows
end HT
namespace Mir
open PySem PySem.Spec PyProof.Rows L2
section
variable {X : Cx}
end
section
variable {X : Cx} {W : WX} {e : Expr} {me : ME}
end
end Mir

namespace IdE
open PySem PySem.Spec PyProof.Rows PySem.SeqAt
section
variable {M : Model} {prog : Program} {w : World} {A : Around} {E : Value → Shared → Prop} {s : Shared} {K : PySem.W.Frag} {x y C D f : Addr} {ox oy : Obj} {od od' : Option Obj}
end
end IdE

namespace Mir
open PySem PySem.Spec PyProof.Rows L2
section
variable {X : Cx} {W : WX} {a b : Expr} {ma mb : ME} {x y : Str} {pos : Pos} {params : Arguments} {ps : List Str} {k j : Nat} {m : MF}
end
end Mir

namespace Rw
open PySem PySem.Spec PyProof.Rows L2 Mir
section
variable {X : Cx} {pins : List (Addr × Obj)} {σ : L2.St} {H : Hp} {s : Shared}
end
section
variable {X : Cx}
end
end Rw

namespace Rw
open PySem PySem.Spec PyProof.Rows L2 Mir
section
variable {X : Cx}
theorem PAT.of {es : List Expr} {t : TA} (h : PA X es t) : PAT X es t := fun pos pins s σ H Q _ I q => h.run pos pins s σ H Q I q
end
end Rw
namespace Mir
open PySem L2
section
variable {X : Cx} {W : WX} {iter : Expr} {it : MI} {a b k : Str} {ia ib ik n0 : Nat} {p1 p2 p3 p4 p5 p6 tpos apos cpos pos fpos : Pos}
end
section
variable {X : Cx} {W : WX} {es : List Expr} {mas : MA} {rest : List Stmt} {mrest : MS}
end
end Mir

namespace Rw
open PySem PySem.Spec PyProof.Rows
section
variable {M : Model} {A : Around} {E : Value → Shared → Prop} {s₀ s : Shared} {m cm : Str → Option Value} {env : PySem.Env}
end
end Rw
namespace Mir
open PySem L2
section
variable {P : Program} {w : World} {K : PySem.W.Frag} {mg : Str → Option Value} {base : Heap} {x qual : Str} {params : Arguments} {body : List Stmt} {scope : Scope} {dvs : List V} {kws : List (Str × V)} {f : Addr} {fd : FuncData} {N ps : List Str} {k nl : Nat} {m : MS}
end
section
variable {X : Cx} {W : WX} {es : List Expr} {mas : MA} {rest : List Stmt} {mrest : MS}
end
end Mir

namespace Mir
open PySem L2
abbrev MD := List Vl → Sto → Option (List P × List P × Sto)
def DnEnd (K : PySem.W.Frag) (w : World) (io : Io) (F H : Hp) (r : List P × List P × Sto) (Q : VK) : Prop := ∀ io1 F1 H1 a es, Nxt io F H io1 F1 H1 → Sta K io1 F1 r.2.2 H1 → H a = none → (∀ k : Nat, io1[k]? ≠ some (some a)) → F1 a = none →
  H1 a = some (DNo (fun k => k.hash w) a es) → nkL r.1 = some (es.map (·.1)) → RepL K F1 r.1 (es.map fun e => .ref e.2.1) → RepL K F1 r.2.1 (es.map (·.2.2)) → Q (.ref a) H1
def spD (K : PySem.W.Frag) (w : World) (m : MD) : Sp := fun vs H Q E => ∃ io F S ds r, Sta K io F S H ∧ RepVs K io F ds vs ∧ m ds S = some r ∧ DnEnd K w io F H r Q
section
variable {X : Cx} {W : WX} {x y : Str} {i j k0 : Nat} {iter ke : Expr} {it : MI} {key : ME} {p1 p2 p3 p4 p5 p6 p8 p10 p12 p13 p14 p15 : Pos}
end
section
variable {P : Program} {w : World} {K : PySem.W.Frag} {mg : Str → Option Value} {base : Heap} {x qual : Str} {params : Arguments} {body : List Stmt} {scope : Scope} {dvs : List V} {kws : List (Str × V)} {f : Addr} {fd : FuncData} {N ps : List Str} {k nl i j : Nat} {it : MI} {key : ME}
end
structure GD (P : Program) (w : World) (K : PySem.W.Frag) (mg : Str → Option Value) (base : Heap) (x : Str) (params : Arguments) (ps : List Str) (k : Nat) (m : MD) : Prop where
  gl : mg x = some (.ref (He.ga K x))
  kp : PySem.W.keepIn K (.ref (He.ga K x)) = true
  fn : ∃ fd, FnG P w K mg base k (He.ga K x) fd ps (spD K w m) ∧ Binds K fd ps []
section
variable {X : Cx} {W : WX} {e ke : Expr} {es : List Expr} {mas : MA} {key : ME} {x : Str} {p pos pos2 apos mpos p0 : Pos} {params : Arguments} {ps : List Str} {k j : Nat} {m : MD}
end
end Mir

namespace Sx
open PySem PySem.W PySem.Calls PyProof.Rows PySem.SeqAt
section
variable {A : Around} {s : Shared}
end
section
variable {prog : Program} {w : World} {A : Around} {E : Value → Shared → Prop} {s : Shared}
end
section
variable {M : Model} {A : Around} {E : Value → Shared → Prop} {s : Shared}
end
section
variable {prog : Program} {w : World} {A : Around} {s : Shared}
end
end Sx
namespace Mir
open PySem L2
section
variable {X : Cx} {k : Nat}
end
section
variable {K : PySem.W.Frag}
end
section
variable {X : Cx} {W : WX} {a : Expr} {ma : ME} {pos p : Pos} {k : Nat}
end
end Mir

namespace Dx
open PySem PySem.Spec PyProof.Rows L2
section
variable {X : Cx}
end
end Dx
namespace Mir
open PySem L2
section
variable {X : Cx} {W : WX} {a b : Expr} {ma mb : ME} {pos : Pos} {k : Nat}
end
end Mir

namespace Mir
open PySem L2
section
variable {K : PySem.W.Frag} {Q : VK} {E : XK}
end
section
variable {X : Cx} {W : WX} {tg iter kx vx : Expr} {it : MI} {g : MG} {ke ve : ME} {js : List Nat} {scope : Scope} {own : List (Str × Nat)} {pos : Pos}
end
section
variable {X : Cx} {W : WX} {o : Expr} {mo : ME} {td : TE} {apos pos p mpos : Pos}
end
end Mir

namespace Mir
open PySem PySem.Spec L2
section
variable (X : Cx) (i : Nat)
end
section
variable {X : Cx} {i : Nat} {s : Stmt} {ss as : List Stmt} {e cc o a b : Expr} {m m2 : Str → XD → MS} {me ma : Str → XD → ME} {mt : Str → XD → MT} {mo : ME} {ms : MS} {pos apos p : Pos}
end
section
variable {X : Cx} {i : Nat} {pos p : Pos}
end
abbrev MSx := Str → XD → Sto → Res Vl
section
variable {P : Program} {w : World} {K : PySem.W.Frag} {mg : Str → Option Value} {base : Heap} {x qual p : Str} {params : Arguments} {body : List Stmt} {scope : Scope} {f : Addr} {fd : FuncData} {N : List Str} {nl : Nat} {m : Str → XD → MS} {mS : MSx}
end
end Mir

namespace Mir
open PySem L2
end Mir

namespace Mir
open PySem L2
section
variable {X : Cx} {pins : List (Addr × Obj)} {σ : L2.St} {H : Hp} {s : Shared}
end
section
variable {X : Cx} {W : WX} {a b c : Expr} {ma mb mc : ME} {pos : Pos}
end
end Mir

namespace Mir
open PySem L2 PySem.Spec PyProof.Rows
section
variable {X : Cx}
end
section
variable {X : Cx} {W : WX} {a b : Expr} {ma mb : ME} {pos : Pos}
end
end Mir

namespace Mir
open PySem L2
def FVs (X : Cx) (ps ks : List Str) (ds : List P) (n : Nat) (pm : List Nat) (j : Nat) : List (Str × MF) → Prop
  | [] => True
  | q :: r => (∃ params k, k ≤ j ∧ GFD X.prog X.w X.K X.mg X.base q.1 params ps ds k q.2 ∧ KwD params ps ks n ds.length pm) ∧ FVs X ps ks ds n pm j r
theorem FVs.at {X : Cx} {ps ks : List Str} {ds : List P} {n : Nat} {pm : List Nat} {j : Nat} {g : Str} {m : MF} : ∀ {tb : List (Str × MF)}, FVs X ps ks ds n pm j tb → tb.lookup g = some m → ∃ params k, k ≤ j ∧ GFD X.prog X.w X.K X.mg X.base g params ps ds k m ∧ KwD params ps ks n ds.length pm
  | [], _, e => by cases e
  | (g', m') :: r, h, e => by
    rw [List.lookup_cons] at e
    by_cases hg : g = g'
    · subst hg
      rw [beq_self_eq_true] at e
      cases e
      exact h.1
    · rw [beq_eq_false_iff_ne.mpr hg] at e
      exact FVs.at h.2 e
section
variable {X : Cx} {W : WX} {e : Expr} {es : List Expr} {mas mks : MA} {x : Str} {p pos : Pos} {ps ks : List Str} {ds : List P} {j n i : Nat} {tb : List (Str × MF)} {kws : List Keyword} {pm : List Nat}
end
end Mir

namespace L2
open PySem PySem.Spec PyProof.Rows
section
variable {P : Program} {w : World} {A : Around} {E : Value → Shared → Prop} {s : Shared}
theorem call_set_lstI {l : Addr} {items : Array Value} (ns : List Int) {Q : Value → Shared → Prop} (hh : A.handled = none) (hl : s.heap.IsList l items) (hit : IntsAre items.toList ns) (hb : ns.length + 1 < scanBound)
    (h : ∀ (h' : Heap) (tk c : Nat), SetR w h' s.heap.objs.size (fun j => decide (j ∈ ns)) c → c ≤ ns.length → (∀ b o, s.heap.get? b = some o → h'.get? b = some o) → Q (.ref s.heap.objs.size) { s with heap := h', toks := tk }) :
    wpAny (model P w) A (call (.type "set") [.ref l]) Q E s := by
  have hisz : items.size = ns.length := by
    have q := IntsAre.length hit
    rw [Array.length_toList] at q
    exact q
  obtain ⟨c, tl, hmro⟩ := F.called_set.mro
  have hmade := F.called_set.made
  have hsub := F.called_set.sub
  refine wpAny_call (codeAny_of_tree ?_)
  show wpAny _ _ (callAny (.type "set") _) _ _ _
  refine wpAny_pure ⟨Code.quiet_builtin _ (by decide +kernel), codeAny_builtin F.entry_type_call ?_⟩
  rw [Around.under_plain (weight_type_call_type "set" [.ref l] []) rfl]
  have h1 := F.called_set.notType
  have h2 := F.called_set.canCreate
  have hct := F.typeCall_set_1 (.ref l)
  repeat (any_goals (first | assumption | wp_step))

  refine codeAny_mono (code_set_led1 (.ref l) (E := E) (Q₁ := fun obj s₁ => obj = .ref s.heap.objs.size ∧ s₁ = { s with heap := s.heap.push { cls := .type "set", dict := none, data := .set #[] 0 (.fresh 0 0 (!w.params.followText "set-order")) } }) ⟨rfl, rfl⟩) fun r s₁ hr => ?_
  cases r with
  | error e => exact hr
  | ok fl =>
    cases fl with
    | ret obj =>
      obtain ⟨rfl, rfl⟩ := hr
      have hS : (s.heap.push { cls := .type "set", dict := none, data := .set #[] 0 (.fresh 0 0 (!w.params.followText "set-order")) }).get? s.heap.objs.size = some { cls := .type "set", dict := none, data := .set #[] 0 (.fresh 0 0 (!w.params.followText "set-order")) } := Heap.get?_push_size _ rfl
      have hT : Shared.TypeIs { s with heap := s.heap.push { cls := .type "set", dict := none, data := .set #[] 0 (.fresh 0 0 (!w.params.followText "set-order")) } } (.ref s.heap.objs.size) "set" := ⟨_, hS, rfl⟩
      have hli := F.called_set.init.lookup
      have hbi := F.called_set.init.bind (.ref s.heap.objs.size)
      repeat (any_goals (first | assumption | wp_step))

      refine codeAny_mono (codeAny_call_builtin (R := wants (fun r s₂ => r = .none ∧ ∃ h' tk c, s₂ = { s with heap := h', toks := tk } ∧ SetR w h' s.heap.objs.size (fun j => decide (j ∈ ns)) c ∧ c ≤ ns.length ∧
          (∀ b o, s.heap.get? b = some o → h'.get? b = some o)) E) F.called_set.init.plain F.entry_set_init (check_set_init_1 hT ?_)) fun r₂ s₂ hr₂ => ?_
      · obtain ⟨ol, hol, hcl, nl, hdl⟩ := hl
        obtain ⟨ocls, odict, odata, oslots⟩ := ol
        simp only at hcl hdl
        subst hcl; subst hdl
        have hol' : (s.heap.push { cls := .type "set", dict := none, data := .set #[] 0 (.fresh 0 0 (!w.params.followText "set-order")) }).get? l = some { cls := .type "list", dict := odict, data := .seq items nl, slots := oslots } := Heap.get?_push_of_some _ hol
        have hsls := F.sub_list_set
        have hslf := F.sub_list_frozenset
        have hne : (Value.type "list" == Value.type "dict") = false := by decide
        have hl1 : (s.heap.push { cls := .type "set", dict := none, data := .set #[] 0 (.fresh 0 0 (!w.params.followText "set-order")) }).IsList l items := ⟨_, hol', rfl, nl, rfl⟩
        unfold Builtin.«set.__init__» noKeywords Builtin.Frozenset.updateFrom
        generalize hPI : pyIter = PI
        wp_walk
        subst hPI

        refine wpAny_pyIter_list hl1 ?_
        refine wpAny_bind (wpAny_runValue ?_)
        have hlS : l < s.heap.objs.size := Heap.lt_size hol
        have hh3 : A.in1.in1.in1.handled = none := by simp [hh]
        have hz1 : (s.heap.push { cls := .type "set", dict := none, data := .set #[] 0 (.fresh 0 0 (!w.params.followText "set-order")) }).objs.size = s.heap.objs.size + 1 := Heap.size_push ..
        have hneI : l ≠ (s.heap.push { cls := .type "set", dict := none, data := .set #[] 0 (.fresh 0 0 (!w.params.followText "set-order")) }).objs.size := by
          rw [Heap.size_push]; exact Nat.ne_of_lt (Nat.lt_succ_of_lt hlS)
        have hSf : s.heap.objs.size ∉ [(s.heap.push { cls := .type "set", dict := none, data := .set #[] 0 (.fresh 0 0 (!w.params.followText "set-order")) }).objs.size, l] := by
          rw [Heap.size_push]; simp only [List.mem_cons, List.mem_singleton, List.not_mem_nil, or_false, not_or]
          exact ⟨Nat.ne_of_lt (Nat.lt_succ_self _), Nat.ne_of_gt hlS⟩
        have hval : ∀ (i : Nat) (v : Value), items[i]? = some v → ∃ k t, ns[i]? = some k ∧ v = .int k t := fun i v hv => by
          have hi : i < ns.length := by rw [← hisz]; exact (Array.getElem?_eq_some_iff.mp hv).1
          obtain ⟨t, e⟩ := PyProof.Rows.IntsAre.int_at hit i v (by rw [Array.getElem?_toList]; exact hv)
          refine ⟨ns[i], t, List.getElem?_eq_getElem hi, ?_⟩
          rw [e, List.getD_eq_getElem?_getD, List.getElem?_eq_getElem hi] <;> rfl
        refine set_update_ints ((Walks.list hh3 _ l hneI items).toS) s.heap.objs.size
          hSf ns hisz hb hval (items.size - 0) 0 _ (by omega) (Nat.zero_le _)
          ⟨⟨_, Heap.get?_push_size _ rfl, rfl, rfl⟩, (hl1.push _)⟩ ?hS0 ?hR
        case hS0 =>
          have hget : ((s.heap.push { cls := .type "set", dict := none, data := .set #[] 0 (.fresh 0 0 (!w.params.followText "set-order")) }).push { cls := .type "list_iterator", data := .fields #[.ref l, .int 0 0] }).get? s.heap.objs.size
              = some { cls := .type "set", dict := none, data := .set #[] 0 (.fresh 0 0 (!w.params.followText "set-order")) } := Heap.get?_push_of_some _ hS
          exact ⟨0, Nat.le_refl 0, setR_new_at hget⟩
        case hR =>
          intro s' c' hm hc' hS'
          obtain ⟨h', g2, d', tk', os'⟩ := s'
          have eg : g2 = s.gens := hm.gens
          have ed : d' = s.drawn := hm.drawn
          have eo : os' = s.os := hm.os
          subst eg; subst ed; subst eo
          show wpAny _ _ _ _ _ _
          refine wpAny_pure ?_
          show wpAny _ _ (ret Value.none) _ _ _
          rw [hisz] at hc'
          refine wpAny_pure ⟨rfl, h', tk', c', rfl, hS', hc', fun b o e => ?_⟩
          have hb0 : b < s.heap.objs.size := Heap.lt_size e
          have hb1 : b ≠ s.heap.objs.size := Nat.ne_of_lt hb0
          have hb2 : b ≠ (s.heap.push { cls := .type "set", dict := none, data := .set #[] 0 (.fresh 0 0 (!w.params.followText "set-order")) }).objs.size := by
            rw [Heap.size_push]; exact Nat.ne_of_lt (Nat.lt_succ_of_lt hb0)
          exact hm.heap b o (by simp only [List.mem_cons, List.mem_singleton, List.not_mem_nil, or_false, not_or]; exact ⟨hb1, hb2⟩) (Heap.get?_push_of_some _ (Heap.get?_push_of_some _ e))

      · cases r₂ with
        | error e => exact hr₂
        | ok fl₂ =>
          cases fl₂ with
          | ret r =>
            obtain ⟨rfl, h', tk, c', rfl, hS', hc', hk'⟩ := hr₂
            repeat (any_goals (first | assumption | wp_step))
            exact h _ _ _ hS' hc' hk'
          | _ => exact hr₂.elim
    | _ => exact hr.elim

end
end L2
namespace Mir
open PySem L2 PyProof.Rows
def rSetL (K : PySem.W.Frag) (w : World) : List V → Hp → VK → Prop := fun vs H Q => ∃ (l : Addr) (ns : List Int), vs = [V.ref l] ∧ SqL K H l (ns.map V.int) ∧ ns.length ≤ 1000 ∧ ∀ (p : Addr) (c : Nat), c ≤ ns.length → H p = none → Q (.ref p) (upd H p (SetO w p (fun j => decide (j ∈ ns)) c))
theorem cr_setL {X : Cx} (hc : X.calm = true) : CallR X (.type "set") (rSetL X.K X.w) := by
  intro pins s σ H vs us Q I r h
  obtain ⟨l, ns, rfl, hq, hl, q⟩ := h
  rw [Vals.ref1 r]
  obtain ⟨its, rv, pt, hz⟩ := I.list hq
  have hi : IntsAre its.toArray.toList ns := ints_of_vals rv
  obtain ⟨o, n, ho, h1, h2, h3⟩ := pt
  refine call_set_lstI ns (I.ok.hd hc) (show s.heap.IsList l its.toArray from ⟨o, ho, h1, n, h3⟩) hi (by unfold scanBound; omega) fun h' tk c R1 hcn k => ?_
  exact ⟨.ref s.heap.objs.size, _, I.laid (t' := tk) (o := SetO X.w s.heap.objs.size (fun j => decide (j ∈ ns)) c) k (Nat.le_refl _) (setO_new R1), rfl, q _ c hcn (I.hok.fresh (Nat.le_refl _))⟩
def insD (n : Int) : List Int → List Int
  | [] => [n]
  | m :: r => if n < m then n :: m :: r else if n = m then m :: r else m :: insD n r
def srtD : List Int → List Int
  | [] => []
  | n :: r => insD n (srtD r)
theorem insD_mem (n k : Int) : ∀ l : List Int, k ∈ insD n l ↔ k = n ∨ k ∈ l
  | [] => by simp [insD]
  | m :: r => by
    unfold insD
    split
    · simp
    · split
      · rename_i h
        subst h
        simp
      · rw [List.mem_cons, insD_mem n k r, List.mem_cons]
        constructor
        · rintro (h | h | h)
          · exact .inr (.inl h)
          · exact .inl h
          · exact .inr (.inr h)
        · rintro (h | h | h)
          · exact .inr (.inl h)
          · exact .inl h
          · exact .inr (.inr h)
theorem srtD_mem (k : Int) : ∀ l : List Int, k ∈ srtD l ↔ k ∈ l
  | [] => Iff.rfl
  | n :: r => by
    show k ∈ insD n (srtD r) ↔ _
    rw [insD_mem, srtD_mem k r, List.mem_cons]
theorem insD_asc (n : Int) : ∀ {l : List Int}, l.Pairwise (· < ·) → (insD n l).Pairwise (· < ·)
  | [], _ => List.pairwise_singleton _ _
  | m :: r, h => by
    unfold insD
    split
    · rename_i hn
      refine List.pairwise_cons.mpr ⟨fun a ha => ?_, h⟩
      rcases List.mem_cons.mp ha with rfl | ha
      · exact hn
      · exact Int.lt_trans hn (List.rel_of_pairwise_cons h ha)
    · split
      · exact h
      · rename_i h1 h2
        rw [List.pairwise_cons] at h
        refine List.pairwise_cons.mpr ⟨fun a ha => ?_, insD_asc n h.2⟩
        rcases (insD_mem n a r).mp ha with rfl | ha
        · omega
        · exact h.1 a ha
theorem srtD_asc : ∀ l : List Int, (srtD l).Pairwise (· < ·)
  | [] => .nil
  | n :: r => insD_asc n (srtD_asc r)
theorem asc_unique {l l' : List Int} (h : l.Pairwise (· < ·)) (h' : l'.Pairwise (· < ·)) (e : ∀ k, k ∈ l ↔ k ∈ l') : l = l' := by
  have n1 : l.Nodup := h.imp fun hab => by omega
  have n2 : l'.Nodup := h'.imp fun hab => by omega
  have p : l.Perm l' := (List.perm_ext_iff_of_nodup n1 n2).mpr e
  exact List.Perm.eq_of_pairwise (le := fun a b : Int => a < b) (fun a b _ _ h1 h2 => by omega) h h' p
def pSrtSet : List P → Option P
  | [.lst xs] => (intsOf xs).bind fun ns => if ns.length < 64 then some (.lst ((srtD ns).map P.int)) else none
  | _ => none
theorem ok_srtSet {K : PySem.W.Frag} {w : World} : CallOk K (fun vs H Q => rSetL K w vs H fun v H2 => rSortedSet w [v] H2 Q) pSrtSet := by
  intro io F S H xs vs z Q st rx e k
  match xs, e with
  | [.lst xs], e =>
    obtain ⟨v, rfl, r1⟩ := rx.one
    obtain ⟨a, vs, rfl, ha, ra⟩ := r1
    have e : ((intsOf xs).bind fun ns => if ns.length < 64 then some (P.lst ((srtD ns).map P.int)) else none) = some z := e
    cases q : intsOf xs with
    | none => rw [q] at e; cases e
    | some ns =>
      rw [q] at e
      have e : (if ns.length < 64 then some (P.lst ((srtD ns).map P.int)) else none) = some z := e
      split at e
      · rename_i hl
        cases e
        obtain ⟨h1, h2⟩ := intsOf_rep ra q
        subst h1
        refine ⟨a, ns, rfl, SqL.of ha, by omega, fun p c hc hp => ?_⟩
        obtain ⟨s3, n3⟩ := st.froze (o := SetO w p (fun j => decide (j ∈ ns)) c) hp
        refine ⟨p, _, c, rfl, upd_same, by omega, fun ms p2 hs hm hn hp2 => ?_⟩
        have em : ms = srtD ns := asc_unique hs (srtD_asc ns) fun k => by rw [hm k, srtD_mem, decide_eq_true_eq]
        subst em
        obtain ⟨s4, n4⟩ := s3.froze (o := .lst ((srtD ns).map V.int)) hp2
        exact k _ _ _ (n3.trans n4) s4 ⟨p2, _, rfl, upd_same, repL_ints _⟩
      · cases e
section
variable {X : Cx} {W : WX} {a : Expr} {ma : ME} {pos p pos2 p2 : Pos}
theorem oe_srtSet (hc : X.calm = true) (hm : X.mg "sorted" = none) (hm2 : X.mg "set" = none) (ha : OE X W a ma) (hg : Gl X "sorted" := by rfl) (hg2 : Gl X "set" := by rfl) (hs : starEach [a] X.env = (false, eval a X.env) :: starEach [] X.env := by rfl)
    (hs2 : starEach [.Call (.Name "set" p2) [a] [] pos2] X.env = (false, eval (.Call (.Name "set" p2) [a] [] pos2) X.env) :: starEach [] X.env := by rfl) :
    OE X W (.Call (.Name "sorted" p) [.Call (.Name "set" p2) [a] [] pos2] [] pos) (eCall pSrtSet (aCons ma aNil)) := by
  obtain ⟨t, q, ha⟩ := oa_cons ha oa_nil hs
  refine ⟨_, pe_callB (cr_sortedSet hc) hg hm (by decide +kernel) (pa_cons (pe_callTy (cr_setL hc) hg2 hm2 (by decide +kernel) q (by decide) (by decide) hs rfl) pa_nil hs2) (by decide) (by decide) hs2 rfl, fun ρ S io F σ H Q st en h => ?_⟩
  exact ha ρ S io F σ H _ st en (RG.bind h fun d S1 io1 F1 H1 v e1 n1 s1 r1 h1 => (show (fun vs H Q => rSetL X.K X.w vs H fun v H2 => rSortedSet X.w [v] H2 Q) v H1 Q from Sta.call1 (r := fun vs H Q => rSetL X.K X.w vs H fun v H2 => rSortedSet X.w [v] H2 Q) ok_srtSet s1 r1 h1))
end
end Mir

namespace Mir
open PySem L2
def eDictPC (ma : ME) : ME := fun ρ S => (ma ρ S).bind fun d S1 => match Mir.rd S1 d with
  | some (.lst xs) => (match mergeP xs [] [] with
    | some q => .ok (.c S1.length) (S1 ++ [.dct q.1 q.2])
    | none => .bad)
  | _ => .bad
section
variable {X : Cx} {W : WX} {a : Expr} {ma : ME} {pos p : Pos}
theorem oe_dictPC (hc : X.calm = true) (hm : X.mg "dict" = none) (ha : OE X W a ma) (hg : Gl X "dict" := by rfl) (hs : starEach [a] X.env = (false, eval a X.env) :: starEach [] X.env := by rfl) :
    OE X W (.Call (.Name "dict" p) [a] [] pos) (eDictPC ma) := by
  obtain ⟨t, q, ha⟩ := ha
  refine ⟨_, pe_callTy (call_dictP hc) hg hm (by first | rfl | decide +kernel) (pa_cons q pa_nil hs) (by decide) (by decide) hs rfl, fun ρ S io F σ H Q st en h => ?_⟩
  refine ha ρ S io F σ H _ st en (RG.bind h fun d S1 io1 F1 H1 v e1 n1 s1 r1 h1 => ?_)
  cases hd : Mir.rd S1 d with
  | none => rw [hd] at h1; exact h1.elim
  | some x =>
    rw [hd] at h1
    cases x with
    | lst xs =>
      dsimp only at h1
      cases hq : mergeP xs [] [] with
      | none => rw [hq] at h1; exact h1.elim
      | some q2 =>
        rw [hq] at h1
        obtain ⟨b, rv, rfl, hb, rr⟩ := s1.rd r1 hd
        obtain ⟨ps, more, e2, hp, j1, j2⟩ := mergeP_rep (kvs := []) s1.sub hq rr .nil .nil
        subst e2
        refine ⟨b, ps, more, rfl, SqL.of hb, hp, fun p hp => ?_⟩
        have hi : (io1 ++ [some p])[S1.length]? = some (some p) := by rw [← s1.len]; simp
        obtain ⟨s3, n3⟩ := s1.push (o := .dK (mergeK [] more)) (c := .dct q2.1 q2.2) hp ⟨p, mergeK [] more, hi, Same.free s1.sub hp, upd_same, j1, j2⟩
        exact h1 _ _ _ (.ref p) n3 s3 ⟨p, hi, rfl⟩
    | _ => exact h1.elim
end
end Mir

namespace Law
open PySem L2 Mir
def isiCs : List Str := ["Draft", "Space"]

def b__law_gulp : MS := (sSeq (sIf (tVal (eBin (pIB fun i j => decide (j < i)) (eItem (eVar 0) (eC (.int 0))) (eC (.int 0)))) (sSeq (sAsg (eCall pDivmod (aCons (eItem (eVar 0) (eC (.int 0))) (aCons (eVar 1) aNil))) (gTp 2 (gCn (gSubM (eVar 0) (eC (.int 0))) (gCn (gNm 2) gNl)))) (sRet (eVar 2))) sPass) (sSeq (sAsg (eBin (pIC bMod fun i j => i % j) (eCall pInt (aCons (eBin pAdd (eBin pMul (eItem (eVar 0) (eC (.int 1))) (eC (.int 61403))) (eC (.int 17011))) aNil)) (eC (.int 2147483053))) (gSubM (eVar 0) (eC (.int 1)))) (sRet (eBin (pIC bMod fun i j => i % j) (eCall pInt (aCons (eBin (pIC bDiv fun i j => i / j) (eItem (eVar 0) (eC (.int 1))) (eC (.int 971))) aNil)) (eVar 1)))))
def m__law_gulp : MF := mkF 2 1 b__law_gulp

def b__law_shuffled : MS := (sSeq (sPar 3 4 (aCons (eLst aNil) (aCons (eCall pList (aCons (eVar 1) aNil)) aNil))) (sSeq (sFor (itRange1 (eCall pLen (aCons (eVar 1) aNil))) (gNm 2) (sSeq (sAsg (eFn m__law_gulp (aCons (eVar 0) (aCons (eCall pLen (aCons (eVar 4) aNil)) aNil))) (gNm 5)) (sPar 3 4 (aCons (eBin pAdd (eVar 3) (eLst (aCons (eItem (eVar 4) (eVar 5)) aNil))) (aCons (eBin pAdd (eSl (eVar 4) oNo (oYes (eVar 5))) (eSl (eVar 4) (oYes (eBin pAdd (eVar 5) (eC (.int 1)))) oNo)) aNil))))) (sRet (eVar 3))))
def m__law_shuffled : MF := mkF 2 4 b__law_shuffled

def b__law_tags : MS := (sSeq (sAsg (eLst (aCons (eC (.str [97])) (aCons (eC (.str [98])) (aCons (eC (.str [99])) (aCons (eC (.str [120])) (aCons (eC (.str [105])) (aCons (eC (.str [110])) (aCons (eC (.str [112, 48])) (aCons (eC (.str [112, 49])) (aCons (eC (.str [97, 98, 99, 100, 101, 102, 103, 104])) (aCons (eC (.str [122, 57])) (aCons (eC (.str [97, 108, 108])) (aCons (eC (.str [112, 108, 97, 105, 110])) (aCons (eC (.str [117, 110, 100, 111])) (aCons (eC (.str [97, 49])) (aCons (eC (.str [97, 49, 49])) (aCons (eC (.str [113])) aNil))))))))))))))))) (gNm 2)) (sRet (eSl (eFn m__law_shuffled (aCons (eVar 0) (aCons (eVar 2) aNil))) oNo (oYes (eVar 1)))))
def m__law_tags : MF := mkF 2 1 b__law_tags

def b__law_one : MS := (sRet (eItem (eVar 1) (eFn m__law_gulp (aCons (eVar 0) (aCons (eCall pLen (aCons (eVar 1) aNil)) aNil)))))
def m__law_one : MF := mkF 2 0 b__law_one

def b__law_grown : MS := (sSeq (sAsg (eLcC (itOf (eVar 0)) [4] (gNm 4) tsYes (eCall pList (aCons (eVar 4) aNil))) (gNm 1)) (sSeq (sFor (itRange1 (eCall pLen (aCons (eVar 0) aNil))) (gNm 2) (sFor (itRange1 (eCall pLen (aCons (eVar 0) aNil))) (gNm 3) (sFor (itOf (eCall pList (aCons (eItem (eVar 1) (eVar 3)) aNil))) (gNm 5) (sAsg (eCall pSrtSet (aCons (eBin pAdd (eItem (eVar 1) (eVar 3)) (eItem (eVar 1) (eVar 5))) aNil)) (gSubM (eVar 1) (eVar 3)))))) (sRet (eVar 1))))
def m__law_grown : MF := mkF 1 5 b__law_grown

def b__law_near : MS := (sSeq (sAsg (eFn m__law_one (aCons (eVar 0) (aCons (eLst (aCons (eC (.int 1)) (aCons (eC (.int 2)) (aCons (eC (.int 3)) (aCons (eC (.int 5)) aNil))))) aNil))) (gNm 2)) (sSeq (sAsg (eLstC aNil) (gNm 3)) (sSeq (sFor (itRange1 (eVar 1)) (gNm 4) (sExpr (eMut isL fApp (eVar 3) (aCons (eBin pAdd (eLst (aCons (eVar 4) aNil)) (eLc (itRange1 (eVar 1)) [5] (gNm 5) (tAndM (tVal (eBin pNe (eVar 5) (eVar 4))) (tVal (eBin bLt (eFn m__law_gulp (aCons (eVar 0) (aCons (eC (.int 10)) aNil))) (eVar 2)))) (eVar 5))) aNil)))) (sRet (eFn m__law_grown (aCons (eVar 3) aNil))))))
def m__law_near : MF := mkF 2 4 b__law_near

def b_is_name : MS := (sSeq (sAsg (eVar 0) (gNm 1)) (sSeq (sIf (tOrM (tNotM (tVal (eIsi isiCs (eVar 0) (eC (.ty "str"))))) (tOrM (tNotM (tVal (eChn bLe bLe (eC (.int 1)) (eCall pLen (aCons (eVar 0) aNil)) (eC (.int 8))))) (tVal (eBin pNotIn2 (eItem (eVar 0) (eC (.int 0))) (eC (.str [97, 98, 99, 100, 101, 102, 103, 104, 105, 106, 107, 108, 109, 110, 111, 112, 113, 114, 115, 116, 117, 118, 119, 120, 121, 122])))))) (sRet (eC (.bl false))) sPass) (sRet (eCall pAll (aCons (eLc (itOf (eVar 1)) [2] (gNm 2) tsYes (eOrM (eBin pIn2 (eVar 2) (eC (.str [97, 98, 99, 100, 101, 102, 103, 104, 105, 106, 107, 108, 109, 110, 111, 112, 113, 114, 115, 116, 117, 118, 119, 120, 121, 122]))) (eBin pIn2 (eVar 2) (eC (.str [48, 49, 50, 51, 52, 53, 54, 55, 56, 57]))))) aNil)))))
def m_is_name : MF := mkF 1 2 b_is_name

def b_read_row : MS := (sSeq (sAsg (eMthT "str" pPartition (eVar 0) (aCons (eC (.str [58, 32])) aNil)) (gTp 3 (gCn (gNm 2) (gCn (gNm 3) (gCn (gNm 4) gNl))))) (sSeq (sAsg (eMthT "str" pSplit (eVar 4) (aCons (eC (.str [32])) aNil)) (gNm 1)) (sRet (eIfM (tAndM (tVal (eBin pNe (eVar 3) (eC (.str [])))) (tVal (eFn m_is_name (aCons (eVar 2) aNil)))) (eTup (aCons (eVar 2) (aCons (eVar 1) aNil))) (eC .non)))))
def m_read_row : MF := mkF 1 4 b_read_row

def b_is_ordered : MS := (sSeq (sAsg (eLc (itOf (eVar 1)) [3] (gNm 3) tsYes (eIfM (tVal (eBin pIn2 (eVar 3) (eVar 0))) (eMthT "list" pIndex (eVar 0) (aCons (eVar 3) aNil)) (eUn pNeg (eC (.int 1))))) (gNm 2)) (sRet (eAndM (eCall pAll (aCons (eLc (itOf (eVar 2)) [4] (gNm 4) tsYes (eBin (pIB fun i j => decide (j ≤ i)) (eVar 4) (eC (.int 0)))) aNil)) (eCall pAll (aCons (eLc (itRange2 (eC (.int 1)) (eCall pLen (aCons (eVar 2) aNil))) [4] (gNm 4) tsYes (eBin bLt (eItem (eVar 2) (eBin (pI fun i j => i - j) (eVar 4) (eC (.int 1)))) (eItem (eVar 2) (eVar 4)))) aNil)))))
def m_is_ordered : MF := mkF 2 3 b_is_ordered

def b_bits_of : MS := (sRet (eCall pSum (aCons (eLc (itOf (eVar 1)) [2] (gNm 2) tsYes (eBin (pIC bPow fun i j => i * 2 ^ j.toNat) (eC (.int 1)) (eMthT "list" pIndex (eVar 0) (aCons (eVar 2) aNil)))) aNil)))
def m_bits_of : MF := mkF 2 1 b_bits_of

def b_indexes_of : MS := (sRet (eLc (itRange1 (eUn pBits (eVar 0))) [1] (gNm 1) (tVal (eBin pEq (eBin (pI fun i j => Builtin.bitAnd i j) (eBin (pIC bShr fun i j => i / 2 ^ j.toNat) (eVar 0) (eVar 1)) (eC (.int 1))) (eC (.int 1)))) (eVar 1)))
def m_indexes_of : MF := mkF 1 1 b_indexes_of

def b_is_seeing : MS := (sSeq (sFor (itEnum (eVar 0)) (gTp 2 (gCn (gNm 1) (gCn (gNm 2) gNl))) (sIf (tOrM (tVal (eBin pEq (eBin (pI fun i j => Builtin.bitAnd i j) (eBin (pIC bShr fun i j => i / 2 ^ j.toNat) (eVar 2) (eVar 1)) (eC (.int 1))) (eC (.int 0)))) (tVal (eCall pAny (aCons (eLc (itOf (eFn m_indexes_of (aCons (eVar 2) aNil))) [3] (gNm 3) tsYes (eBin pNe (eBin (pI fun i j => Builtin.bitAnd i j) (eItem (eVar 0) (eVar 3)) (eUn pInv (eVar 2))) (eC (.int 0)))) aNil)))) (sRet (eC (.bl false))) sPass)) (sRet (eC (.bl true))))
def m_is_seeing : MF := mkF 1 3 b_is_seeing

def b_read_space : MS := (sSeq (sAsg (eLc (itOf (eMthT "str" pSplit (eVar 0) (aCons (eC (.str [10])) aNil))) [4] (gNm 4) tsYes (eFn m_read_row (aCons (eVar 4) aNil))) (gNm 1)) (sSeq (sIf (tOrM (tVal (eBin pIn2 (eC .non) (eVar 1))) (tVal (eBin (pIB fun i j => decide (j < i)) (eCall pLen (aCons (eVar 1) aNil)) (eC (.int 256))))) (sRet (eC .non)) sPass) (sSeq (sAsg (eLc (itOf (eVar 1)) [5, 3] (gTp 2 (gCn (gNm 5) (gCn (gNm 3) gNl))) tsYes (eVar 5)) (gNm 2)) (sSeq (sIf (tOrM (tVal (eBin pNe (eCall pLen (aCons (eCall pDictP (aCons (eVar 1) aNil)) aNil)) (eCall pLen (aCons (eVar 1) aNil)))) (tNotM (tVal (eCall pAll (aCons (eLc (itOf (eVar 1)) [5, 3] (gTp 2 (gCn (gNm 5) (gCn (gNm 3) gNl))) tsYes (eFn m_is_ordered (aCons (eVar 2) (aCons (eVar 3) aNil)))) aNil))))) (sRet (eC .non)) sPass) (sSeq (sAsg (eLc (itOf (eVar 1)) [5, 6] (gTp 2 (gCn (gNm 5) (gCn (gNm 6) gNl))) tsYes (eFn m_bits_of (aCons (eVar 2) (aCons (eVar 6) aNil)))) (gNm 3)) (sRet (eIfM (tVal (eFn m_is_seeing (aCons (eVar 3) aNil))) (eTup (aCons (eVar 2) (aCons (eVar 3) aNil))) (eC .non))))))))
def m_read_space : MF := mkF 1 6 b_read_space

def b_Space___init__ : MS := (sSeq (sAsg (eIfM (tVal (eIsi isiCs (eVar 1) (eC (.ty "str")))) (eFn m_read_space (aCons (eVar 1) aNil)) (eC .non)) (gNm 2)) (sSeq (sIf (tVal (eIsN (eVar 2))) sNever sPass) (sParG 3 (aCons (eVar 1) (aCons (eItem (eVar 2) (eC (.int 0))) (aCons (eItem (eVar 2) (eC (.int 1))) aNil))) (gCn (gFldM "Space" "told" (eVar 0)) (gCn (gFldM "Space" "order" (eVar 0)) (gCn (gFldM "Space" "seen" (eVar 0)) gNl))))))
def m_Space___init__ : MF := mkF 2 1 b_Space___init__

def b__law_space_text : MS := (sRet (eMthT "str" pJoin (eC (.str [10])) (aCons (eLc (itRange1 (eCall pLen (aCons (eVar 1) aNil))) [2] (gNm 2) tsYes (eBin pAdd (eBin pAdd (eItem (eVar 0) (eVar 2)) (eC (.str [58, 32]))) (eMthT "str" pJoin (eC (.str [32])) (aCons (eLc (itOf (eCall pSorted (aCons (eItem (eVar 1) (eVar 2)) aNil))) [3] (gNm 3) tsYes (eItem (eVar 0) (eVar 3))) aNil)))) aNil)))
def m__law_space_text : MF := mkF 2 2 b__law_space_text

def b__law_state : MS := (sSeq (sAsg eDctC (gNm 2)) (sSeq (sFor (itRange1 (eCall pLen (aCons (eVar 1) aNil))) (gNm 3) (sPutK (eLc (itOf (eItem (eVar 1) (eVar 3))) [4] (gNm 4) tsYes (eItem (eVar 0) (eVar 4))) (eVar 2) (eItem (eVar 0) (eVar 3)))) (sRet (eTup (aCons (eCall pList (aCons (eSl (eVar 0) oNo (oYes (eCall pLen (aCons (eVar 1) aNil)))) aNil)) (aCons (eVar 2) aNil))))))
def m__law_state : MF := mkF 2 3 b__law_state

def b_check_space : MS := (sIf (tNotM (tVal (eIsi isiCs (eVar 0) (eC (.glo "Space"))))) sNever sPass)
def m_check_space : MF := mkF 1 0 b_check_space

def b_Draft___init__ : MS := (sSeq (sExpr (eFn m_check_space (aCons (eVar 1) aNil))) (sAsg (eTup (aCons (eVar 1) (aCons (eC .non) (aCons (eC (.int 0)) aNil)))) (gFldM "Draft" "held" (eVar 0))))
def m_Draft___init__ : MF := mkF 2 0 b_Draft___init__

def b_Draft_space : MS := (sRet (eItem (eFld "Draft" "held" (eVar 0)) (eC (.int 0))))
def m_Draft_space : MF := mkF 1 0 b_Draft_space

def b_Space_text : MS := (sRet (eFld "Space" "told" (eVar 0)))
def m_Space_text : MF := mkF 1 0 b_Space_text

def b__law_told : MS := (sSeq (sAsg (eVar 0) (gTp 2 (gCn (gNm 1) (gCn (gNm 2) gNl)))) (sRet (eMthT "str" pJoin (eC (.str [10])) (aCons (eLc (itOf (eVar 1)) [3] (gNm 3) tsYes (eBin pAdd (eBin pAdd (eVar 3) (eC (.str [58, 32]))) (eMthT "str" pJoin (eC (.str [32])) (aCons (eLc (itOf (eVar 1)) [4] (gNm 4) (tVal (eBin pIn2 (eVar 4) (eItemK (eVar 2) (eVar 3)))) (eVar 4)) aNil)))) aNil))))
def m__law_told : MF := mkF 1 4 b__law_told

def b_Draft_changes : MS := (sRet (eItem (eFld "Draft" "held" (eVar 0)) (eC (.int 2))))
def m_Draft_changes : MF := mkF 1 0 b_Draft_changes

def b_Space_points : MS := (sRet (eCall pTuple (aCons (eFld "Space" "order" (eVar 0)) aNil)))
def m_Space_points : MF := mkF 1 0 b_Space_points

def b_check_point : MS := (sIf (tOrM (tNotM (tVal (eFn m_is_name (aCons (eVar 1) aNil)))) (tVal (eBin pNotIn2 (eVar 1) (eFld "Space" "order" (eVar 0))))) sNever sPass)
def m_check_point : MF := mkF 2 0 b_check_point

def b_names_of : MS := (sRet (eCall pTuple (aCons (eLc (itOf (eFn m_indexes_of (aCons (eVar 1) aNil))) [2] (gNm 2) tsYes (eItem (eFld "Space" "order" (eVar 0)) (eVar 2))) aNil)))
def m_names_of : MF := mkF 2 1 b_names_of

def b_Space_near : MS := (sSeq (sExpr (eFn m_check_point (aCons (eVar 0) (aCons (eVar 1) aNil)))) (sRet (eFn m_names_of (aCons (eVar 0) (aCons (eItem (eFld "Space" "seen" (eVar 0)) (eMthT "list" pIndex (eFld "Space" "order" (eVar 0)) (aCons (eVar 1) aNil))) aNil)))))
def m_Space_near : MF := mkF 2 0 b_Space_near

def b__law_draft_tells : MS := (sSeq (sAsg (eItem (eVar 1) (eUn pNeg (eC (.int 1)))) (gTp 2 (gCn (gNm 2) (gCn (gNm 3) gNl)))) (sSeq (sIf (tOrM (tVal (eBin pNe (eProp "Space" m_Space_text (eProp "Draft" m_Draft_space (eVar 0))) (eFn m__law_told (aCons (eItem (eVar 1) (eUn pNeg (eC (.int 1)))) aNil)))) (tVal (eBin pNe (eProp "Draft" m_Draft_changes (eVar 0)) (eBin (pI fun i j => i - j) (eCall pLen (aCons (eVar 1) aNil)) (eC (.int 1)))))) (sRet (eC (.bl false))) sPass) (sSeq (sIf (tVal (eBin pNe (eProp "Space" m_Space_points (eProp "Draft" m_Draft_space (eVar 0))) (eCall pTuple (aCons (eVar 2) aNil)))) (sRet (eC (.bl false))) sPass) (sRet (eCall pAll (aCons (eLc (itOf (eVar 2)) [4] (gNm 4) tsYes (eBin pEq (eMeth "Space" "near" m_Space_near (eProp "Draft" m_Draft_space (eVar 0)) (aCons (eVar 4) aNil)) (eCall pTuple (aCons (eLc (itOf (eVar 2)) [5] (gNm 5) (tVal (eBin pIn2 (eVar 5) (eItemK (eVar 3) (eVar 4)))) (eVar 5)) aNil)))) aNil))))))
def m__law_draft_tells : MF := mkF 2 4 b__law_draft_tells

def b__law_deed : MS := (sSeq (sParG 2 (aCons (eItem (eVar 1) (eC (.int 0))) (aCons (eFn m__law_gulp (aCons (eVar 0) (aCons (eC (.int 7)) aNil))) aNil)) (gCn (gNm 3) (gCn (gNm 4) gNl))) (sSeq (sAsg (eLc (itOf (eLst (aCons (eC (.str [107])) (aCons (eC (.str [107, 107])) (aCons (eC (.str [97])) (aCons (eC (.str [98])) (aCons (eC (.str [112, 48])) (aCons (eC (.str [122, 57])) (aCons (eC (.str [97, 98, 99, 100, 101, 102, 103, 104])) aNil))))))))) [5] (gNm 5) (tVal (eBin pNotIn2 (eVar 5) (eVar 3))) (eVar 5)) (gNm 2)) (sSeq (sIf (tAndM (tVal (eBin bLt (eVar 4) (eC (.int 2)))) (tAndM (tVal (eBin pNe (eVar 2) (eLst aNil))) (tVal (eBin bLt (eCall pLen (aCons (eVar 3) aNil)) (eC (.int 7)))))) (sRet (eTup (aCons (eC (.str [97, 100, 100])) (aCons (eFn m__law_one (aCons (eVar 0) (aCons (eVar 2) aNil))) (aCons (eC (.str [])) aNil))))) sPass) (sSeq (sIf (tAndM (tVal (eBin pEq (eVar 4) (eC (.int 2)))) (tVal (eBin (pIB fun i j => decide (j < i)) (eCall pLen (aCons (eVar 3) aNil)) (eC (.int 1))))) (sRet (eTup (aCons (eC (.str [114, 101, 109, 111, 118, 101])) (aCons (eFn m__law_one (aCons (eVar 0) (aCons (eVar 3) aNil))) (aCons (eC (.str [])) aNil))))) sPass) (sSeq (sIf (tVal (eBin pEq (eVar 4) (eC (.int 3)))) (sRet (eTup (aCons (eC (.str [99, 117, 116])) (aCons (eFn m__law_one (aCons (eVar 0) (aCons (eVar 3) aNil))) (aCons (eC (.str [])) aNil))))) sPass) (sRet (eTup (aCons (eC (.str [108, 105, 110, 107])) (aCons (eFn m__law_one (aCons (eVar 0) (aCons (eVar 3) aNil))) (aCons (eFn m__law_one (aCons (eVar 0) (aCons (eVar 3) aNil))) aNil))))))))))
def m__law_deed : MF := mkF 2 4 b__law_deed

def b__law_after : MS := (sSeq (sParG 2 (aCons (eCpyC (eItem (eVar 0) (eC (.int 0)))) (aCons (eDictPC (eLc (itOf (eItem (eVar 0) (eC (.int 0)))) [5] (gNm 5) tsYes (eTup (aCons (eVar 5) (aCons (eCall pList (aCons (eItemK (eItem (eVar 0) (eC (.int 1))) (eVar 5)) aNil)) aNil))))) aNil)) (gCn (gNm 2) (gCn (gNm 3) gNl))) (sSeq (sAsg (eVar 1) (gTp 3 (gCn (gNm 4) (gCn (gNm 5) (gCn (gNm 6) gNl))))) (sSeq (sIf (tVal (eBin pEq (eVar 4) (eC (.str [97, 100, 100])))) (sSeq (sExpr (eMut isL fApp (eVar 2) (aCons (eVar 5) aNil))) (sPutK (eLst (aCons (eVar 5) aNil)) (eVar 3) (eVar 5))) sPass) (sSeq (sIf (tVal (eBin pEq (eVar 4) (eC (.str [114, 101, 109, 111, 118, 101])))) (sSeq (sAsg (eLcC (itOf (eVar 2)) [8] (gNm 8) (tVal (eBin pNe (eVar 8) (eVar 5))) (eVar 8)) (gNm 2)) (sAsg (eDictPC (eLc (itOf (eVar 2)) [8] (gNm 8) tsYes (eTup (aCons (eVar 8) (aCons (eLc (itOf (eItemK (eVar 3) (eVar 8))) [9] (gNm 9) (tVal (eBin pNe (eVar 9) (eVar 5))) (eVar 9)) aNil))))) (gNm 3))) sPass) (sSeq (sIf (tVal (eBin pEq (eVar 4) (eC (.str [108, 105, 110, 107])))) (sSeq (sAsg (eCall pList (aCons (eItemK (eVar 3) (eVar 6)) aNil)) (gNm 7)) (sFor (itOf (eVar 2)) (gNm 8) (sIf (tVal (eBin pIn2 (eVar 5) (eItemK (eVar 3) (eVar 8)))) (sPutK (eBin pAdd (eItemK (eVar 3) (eVar 8)) (eLc (itOf (eVar 7)) [9] (gNm 9) (tVal (eBin pNotIn2 (eVar 9) (eItemK (eVar 3) (eVar 8)))) (eVar 9))) (eVar 3) (eVar 8)) sPass))) sPass) (sSeq (sIf (tVal (eBin pEq (eVar 4) (eC (.str [99, 117, 116])))) (sPutK (eLst (aCons (eVar 5) aNil)) (eVar 3) (eVar 5)) sPass) (sRet (eTup (aCons (eVar 2) (aCons (eVar 3) aNil))))))))))
def m__law_after : MF := mkF 2 8 b__law_after

def b_text_of : MS := (sSeq (sAsg (eLstC aNil) (gNm 2)) (sSeq (sFor (itZip (eVar 0) (eVar 1)) (gTp 2 (gCn (gNm 3) (gCn (gNm 4) gNl))) (sSeq (sAsg (eMthT "str" pJoin (eC (.str [32])) (aCons (eLc (itOf (eFn m_indexes_of (aCons (eVar 4) aNil))) [6] (gNm 6) tsYes (eItem (eVar 0) (eVar 6))) aNil)) (gNm 5)) (sExpr (eMut isL fApp (eVar 2) (aCons (eJoin (jFmt (eVar 3) (jTxt [58, 32] (jFmt (eVar 5) jNil)))) aNil))))) (sRet (eMthT "str" pJoin (eC (.str [10])) (aCons (eVar 2) aNil)))))
def m_text_of : MF := mkF 2 5 b_text_of

def b_Draft_become : MS := (sAsg (eTup (aCons (eMake false "Space" m_Space___init__ (aCons (eFn m_text_of (aCons (eVar 1) (aCons (eVar 2) aNil))) aNil)) (aCons (eFld "Draft" "held" (eVar 0)) (aCons (eBin pAdd (eItem (eFld "Draft" "held" (eVar 0)) (eC (.int 2))) (eC (.int 1))) aNil)))) (gFldM "Draft" "held" (eVar 0)))
def m_Draft_become : MF := mkF 3 0 b_Draft_become

def b_Draft_add : MS := (sSeq (sIf (tNotM (tVal (eFn m_is_name (aCons (eVar 1) aNil)))) sNever sPass) (sSeq (sPar 2 3 (aCons (eFld "Space" "order" (eProp "Draft" m_Draft_space (eVar 0))) (aCons (eFld "Space" "seen" (eProp "Draft" m_Draft_space (eVar 0))) aNil))) (sSeq (sIf (tVal (eBin pIn2 (eVar 1) (eVar 2))) sNever sPass) (sSeq (sIf (tVal (eBin pEq (eCall pLen (aCons (eVar 2) aNil)) (eC (.int 256)))) sNever sPass) (sExpr (eMeth "Draft" "become" m_Draft_become (eVar 0) (aCons (eLst (aStar (eVar 2) (aCons (eVar 1) aNil))) (aCons (eLst (aStar (eVar 3) (aCons (eBin (pIC bPow fun i j => i * 2 ^ j.toNat) (eC (.int 1)) (eCall pLen (aCons (eVar 2) aNil))) aNil))) aNil))))))))
def m_Draft_add : MF := mkF 2 2 b_Draft_add

def b_Draft_remove : MS := (sSeq (sExpr (eFn m_check_point (aCons (eProp "Draft" m_Draft_space (eVar 0)) (aCons (eVar 1) aNil)))) (sSeq (sPar 5 6 (aCons (eFld "Space" "order" (eProp "Draft" m_Draft_space (eVar 0))) (aCons (eFld "Space" "seen" (eProp "Draft" m_Draft_space (eVar 0))) aNil))) (sSeq (sIf (tVal (eBin pEq (eCall pLen (aCons (eVar 5) aNil)) (eC (.int 1)))) sNever sPass) (sSeq (sAsg (eMthT "list" pIndex (eVar 5) (aCons (eVar 1) aNil)) (gNm 2)) (sSeq (sAsg (eBin (pI fun i j => i - j) (eBin (pIC bPow fun i j => i * 2 ^ j.toNat) (eC (.int 1)) (eVar 2)) (eC (.int 1))) (gNm 3)) (sSeq (sAsg (eLc (itOf (eVar 6)) [7] (gNm 7) tsYes (eBin (pI fun i j => Builtin.bitOr i j) (eBin (pI fun i j => Builtin.bitAnd i j) (eVar 7) (eVar 3)) (eBin (pIC bPow fun i j => i * 2 ^ j.toNat) (eBin (pIC bShr fun i j => i / 2 ^ j.toNat) (eVar 7) (eBin pAdd (eVar 2) (eC (.int 1)))) (eVar 2)))) (gNm 4)) (sExpr (eMeth "Draft" "become" m_Draft_become (eVar 0) (aCons (eBin pAdd (eSl (eVar 5) oNo (oYes (eVar 2))) (eSl (eVar 5) (oYes (eBin pAdd (eVar 2) (eC (.int 1)))) oNo)) (aCons (eBin pAdd (eSl (eVar 4) oNo (oYes (eVar 2))) (eSl (eVar 4) (oYes (eBin pAdd (eVar 2) (eC (.int 1)))) oNo)) aNil))))))))))
def m_Draft_remove : MF := mkF 2 6 b_Draft_remove

def b_Draft_cut : MS := (sSeq (sExpr (eFn m_check_point (aCons (eProp "Draft" m_Draft_space (eVar 0)) (aCons (eVar 1) aNil)))) (sSeq (sAsg (eFld "Space" "order" (eProp "Draft" m_Draft_space (eVar 0))) (gNm 2)) (sSeq (sAsg (eMthT "list" pIndex (eVar 2) (aCons (eVar 1) aNil)) (gNm 3)) (sExpr (eMeth "Draft" "become" m_Draft_become (eVar 0) (aCons (eVar 2) (aCons (eLc (itEnum (eFld "Space" "seen" (eProp "Draft" m_Draft_space (eVar 0)))) [4, 5] (gTp 2 (gCn (gNm 4) (gCn (gNm 5) gNl))) tsYes (eIfM (tVal (eBin pEq (eVar 4) (eVar 3))) (eBin (pIC bPow fun i j => i * 2 ^ j.toNat) (eC (.int 1)) (eVar 3)) (eVar 5))) aNil)))))))
def m_Draft_cut : MF := mkF 2 4 b_Draft_cut

def b_Draft_link : MS := (sSeq (sExpr (eFn m_check_point (aCons (eProp "Draft" m_Draft_space (eVar 0)) (aCons (eVar 1) aNil)))) (sSeq (sExpr (eFn m_check_point (aCons (eProp "Draft" m_Draft_space (eVar 0)) (aCons (eVar 2) aNil)))) (sSeq (sPar 3 4 (aCons (eFld "Space" "order" (eProp "Draft" m_Draft_space (eVar 0))) (aCons (eFld "Space" "seen" (eProp "Draft" m_Draft_space (eVar 0))) aNil))) (sSeq (sParG 2 (aCons (eMthT "list" pIndex (eVar 3) (aCons (eVar 1) aNil)) (aCons (eItem (eVar 4) (eMthT "list" pIndex (eVar 3) (aCons (eVar 2) aNil))) aNil)) (gCn (gNm 5) (gCn (gNm 6) gNl))) (sExpr (eMeth "Draft" "become" m_Draft_become (eVar 0) (aCons (eVar 3) (aCons (eLc (itOf (eVar 4)) [7] (gNm 7) tsYes (eIfM (tVal (eBin pEq (eBin (pI fun i j => Builtin.bitAnd i j) (eBin (pIC bShr fun i j => i / 2 ^ j.toNat) (eVar 7) (eVar 5)) (eC (.int 1))) (eC (.int 1)))) (eBin (pI fun i j => Builtin.bitOr i j) (eVar 7) (eVar 6)) (eVar 7))) aNil))))))))
def m_Draft_link : MF := mkF 3 5 b_Draft_link

def b__law_did : MS := (sSeq (sAsg (eVar 1) (gTp 3 (gCn (gNm 3) (gCn (gNm 4) (gCn (gNm 5) gNl))))) (sSeq (sIf (tVal (eBin pEq (eVar 3) (eC (.str [97, 100, 100])))) (sRet (eIfM (tVal (eVar 2)) (eMethK "Draft" "add" m_Draft_add 0 1 [0, 1] (eVar 0) aNil (aCons (eVar 4) aNil)) (eMeth "Draft" "add" m_Draft_add (eVar 0) (aCons (eVar 4) aNil)))) sPass) (sSeq (sIf (tVal (eBin pEq (eVar 3) (eC (.str [114, 101, 109, 111, 118, 101])))) (sRet (eMeth "Draft" "remove" m_Draft_remove (eVar 0) (aCons (eVar 4) aNil))) sPass) (sSeq (sIf (tVal (eBin pEq (eVar 3) (eC (.str [99, 117, 116])))) (sRet (eIfM (tVal (eVar 2)) (eMethK "Draft" "cut" m_Draft_cut 0 1 [0, 1] (eVar 0) aNil (aCons (eVar 4) aNil)) (eMeth "Draft" "cut" m_Draft_cut (eVar 0) (aCons (eVar 4) aNil)))) sPass) (sRet (eIfM (tVal (eVar 2)) (eMethK "Draft" "link" m_Draft_link 0 2 [0, 2, 1] (eVar 0) aNil (aCons (eVar 5) (aCons (eVar 4) aNil))) (eMeth "Draft" "link" m_Draft_link (eVar 0) (aCons (eVar 4) (aCons (eVar 5) aNil)))))))))
def m__law_did : MF := mkF 3 3 b__law_did

def b_Space___eq__ : MS := (sRet (eAndM (eIsi isiCs (eVar 1) (eC (.glo "Space"))) (eBin pEq (eFld "Space" "told" (eVar 0)) (eFld "Space" "told" (eVar 1)))))
def m_Space___eq__ : MF := mkF 2 0 b_Space___eq__

def b_Draft_undo : MS := (sSeq (sIf (tVal (eIsN (eItem (eFld "Draft" "held" (eVar 0)) (eC (.int 1))))) sNever sPass) (sAsg (eItem (eFld "Draft" "held" (eVar 0)) (eC (.int 1))) (gFldM "Draft" "held" (eVar 0))))
def m_Draft_undo : MF := mkF 1 0 b_Draft_undo

def b__law_right : MS := (sSeq (sPar 5 6 (aCons (eBin pAdd (eC (.int 1)) (eFn m__law_gulp (aCons (eVar 0) (aCons (eC (.int 5)) aNil)))) (aCons (eFn m__law_tags (aCons (eVar 0) (aCons (eC (.int 5)) aNil))) aNil))) (sSeq (sAsg (eFn m__law_near (aCons (eVar 0) (aCons (eVar 5) aNil))) (gNm 1)) (sSeq (sAsg (eMake false "Space" m_Space___init__ (aCons (eFn m__law_space_text (aCons (eVar 6) (aCons (eVar 1) aNil))) aNil)) (gNm 2)) (sSeq (sPar3 7 8 9 (aCons (eMake true "Draft" m_Draft___init__ (aCons (eVar 2) aNil)) (aCons (eMake true "Draft" m_Draft___init__ (aCons (eVar 2) aNil)) (aCons (eLstC (aCons (eFn m__law_state (aCons (eVar 6) (aCons (eVar 1) aNil))) aNil)) aNil)))) (sSeq (sAsg (eCall pList (aCons (eVar 9) aNil)) (gNm 3)) (sSeq (sIf (tNotM (tVal (eFn m__law_draft_tells (aCons (eVar 7) (aCons (eVar 9) aNil))))) (sRet (eC (.bl false))) sPass) (sSeq (sFor (itRange1 (eC (.int 12))) (gNm 4) (sSeq (sAsg (eFn m__law_deed (aCons (eVar 0) (aCons (eItem (eVar 9) (eUn pNeg (eC (.int 1)))) aNil))) (gNm 10)) (sSeq (sExpr (eMut isL fApp (eVar 9) (aCons (eFn m__law_after (aCons (eItem (eVar 9) (eUn pNeg (eC (.int 1)))) (aCons (eVar 10) aNil))) aNil))) (sSeq (sIf (tOrM (tVal (eNotN (eFn m__law_did (aCons (eVar 7) (aCons (eVar 10) (aCons (eBin pEq (eFn m__law_gulp (aCons (eVar 0) (aCons (eC (.int 2)) aNil))) (eC (.int 0))) aNil)))))) (tNotM (tVal (eFn m__law_draft_tells (aCons (eVar 7) (aCons (eVar 9) aNil)))))) (sRet (eC (.bl false))) sPass) (sIf (tOrM (tVal (eNeM "Space" m_Space___eq__ (eMake false "Space" m_Space___init__ (aCons (eProp "Space" m_Space_text (eProp "Draft" m_Draft_space (eVar 7))) aNil)) (eProp "Draft" m_Draft_space (eVar 7)))) (tNotM (tVal (eFn m__law_draft_tells (aCons (eVar 8) (aCons (eVar 3) aNil)))))) (sRet (eC (.bl false))) sPass))))) (sSeq (sFor (itRange1 (eC (.int 12))) (gNm 4) (sSeq (sExpr (eMut isL fPop (eVar 9) aNil)) (sIf (tOrM (tVal (eNotN (eMeth "Draft" "undo" m_Draft_undo (eVar 7) aNil))) (tNotM (tVal (eFn m__law_draft_tells (aCons (eVar 7) (aCons (eVar 9) aNil)))))) (sRet (eC (.bl false))) sPass))) (sRet (eEqM "Space" m_Space___eq__ (eProp "Draft" m_Draft_space (eVar 7)) (eVar 2)))))))))))
def m__law_right : MF := mkF 1 10 b__law_right

def b__law_mug : MS := (sSeq (sAsg (eIfM (tVal (eBin bLt (eVar 1) (eCall pLen (aCons (eVar 0) aNil)))) (eItem (eVar 0) (eVar 1)) (eBin pMul (eC (.int 58013)) (eBin pAdd (eVar 1) (eC (.int 7))))) (gNm 2)) (sSeq (sAsg (eBin pAdd (eC (.int 43661)) (eBin pMul (eC (.int 6133)) (eVar 1))) (gNm 3)) (sSeq (sFor (itOf (eBin pAdd (eSl (eVar 0) oNo (oYes (eC (.int 4)))) (eLst (aCons (eVar 2) aNil)))) (gNm 4) (sAsg (eBin (pIC bMod fun i j => i % j) (eCall pInt (aCons (eBin pAdd (eBin pAdd (eBin pMul (eVar 3) (eC (.int 40127))) (eBin (pIC bMod fun i j => i % j) (eCall pInt (aCons (eVar 4) aNil)) (eC (.int 2147483053)))) (eC (.int 53))) aNil)) (eC (.int 2147483053))) (gNm 3))) (sRet (eLstC (aCons (eIfM (tOrM (tVal (eBin bLt (eVar 2) (eC (.int 0)))) (tVal (eBin (pIB fun i j => decide (j ≤ i)) (eVar 2) (eBin (pIC bPow fun i j => i ^ j.toNat) (eC (.int 10)) (eC (.int 17)))))) (eCall pAbs (aCons (eVar 2) aNil)) (eC (.int 0))) (aCons (eVar 3) aNil)))))))
def m__law_mug : MF := mkK 2 3 b__law_mug

def b_law : MS := (sRet (eCall pAll (aCons (eLc (itRange1 (eCall pMax2 (aCons (eC (.int 2)) (aCons (eCall pMin2 (aCons (eCall pLen (aCons (eVar 0) aNil)) (aCons (eC (.int 5)) aNil))) aNil)))) [1] (gNm 1) tsYes (eCut (eFn m__law_right (aCons (eFn m__law_mug (aCons (eVar 0) (aCons (eVar 1) aNil))) aNil)))) aNil)))
def m_law : MF := mkF 1 1 b_law
end Law

namespace Law
open PySem L2 Mir
def top (i : Nat) : Stmt := PySem.Challenge.pw_closedinner_k52_whole_drafts_through_cha.main.body.getD i (.Pass ⟨0, 0, 0, 0⟩)
def inC (s : Stmt) (j : Nat) : Stmt := match s with
  | .ClassDef (body := b) .. => b.getD j (.Pass ⟨0, 0, 0, 0⟩)
  | _ => .Pass ⟨0, 0, 0, 0⟩
abbrev s__law_gulp : Stmt := top 35
abbrev s__law_shuffled : Stmt := top 37
abbrev s__law_tags : Stmt := top 38
abbrev s__law_one : Stmt := top 36
abbrev s__law_grown : Stmt := top 39
abbrev s__law_near : Stmt := top 40
abbrev s_is_name : Stmt := top 18
abbrev s_read_row : Stmt := top 20
abbrev s_is_ordered : Stmt := top 21
abbrev s_bits_of : Stmt := top 22
abbrev s_indexes_of : Stmt := top 25
abbrev s_is_seeing : Stmt := top 24
abbrev s_read_space : Stmt := top 23
abbrev s_Space___init__ : Stmt := inC (top 27) 0
abbrev s__law_space_text : Stmt := top 41
abbrev s__law_state : Stmt := top 42
abbrev s_check_space : Stmt := top 29
abbrev s_Draft___init__ : Stmt := inC (top 32) 0
abbrev s_Draft_space : Stmt := inC (top 32) 2
abbrev s_Space_text : Stmt := inC (top 27) 1
abbrev s__law_told : Stmt := top 43
abbrev s_Draft_changes : Stmt := inC (top 32) 3
abbrev s_Space_points : Stmt := inC (top 27) 2
abbrev s_check_point : Stmt := top 30
abbrev s_names_of : Stmt := top 28
abbrev s_Space_near : Stmt := inC (top 27) 3
abbrev s__law_draft_tells : Stmt := top 47
abbrev s__law_deed : Stmt := top 45
abbrev s__law_after : Stmt := top 44
abbrev s_text_of : Stmt := top 26
abbrev s_Draft_become : Stmt := inC (top 32) 1
abbrev s_Draft_add : Stmt := inC (top 32) 4
abbrev s_Draft_remove : Stmt := inC (top 32) 5
abbrev s_Draft_cut : Stmt := inC (top 32) 7
abbrev s_Draft_link : Stmt := inC (top 32) 6
abbrev s__law_did : Stmt := top 46
abbrev s_Space___eq__ : Stmt := inC (top 27) 8
abbrev s_Draft_undo : Stmt := inC (top 32) 8
abbrev s__law_right : Stmt := top 48
abbrev s__law_mug : Stmt := top 34
abbrev s_law : Stmt := top 49
structure Tp (K : PySem.W.Frag) (mg : Str → Option Value) : Prop where
  f_abs : mg "abs" = none
  f_all : mg "all" = none
  f_any : mg "any" = none
  f_dict : mg "dict" = none
  f_divmod : mg "divmod" = none
  f_enumerate : mg "enumerate" = none
  f_int : mg "int" = none
  f_isinstance : mg "isinstance" = none
  f_len : mg "len" = none
  f_list : mg "list" = none
  f_max : mg "max" = none
  f_min : mg "min" = none
  f_range : mg "range" = none
  f_set : mg "set" = none
  f_sorted : mg "sorted" = none
  f_str : mg "str" = none
  f_sum : mg "sum" = none
  f_tuple : mg "tuple" = none
  f_zip : mg "zip" = none
  v_DIGITS : GV K mg "DIGITS" (.str [48, 49, 50, 51, 52, 53, 54, 55, 56, 57])
  v_LETTERS : GV K mg "LETTERS" (.str [97, 98, 99, 100, 101, 102, 103, 104, 105, 106, 107, 108, 109, 110, 111, 112, 113, 114, 115, 116, 117, 118, 119, 120, 121, 122])
  v_LONGEST : GV K mg "LONGEST" (.int 8)
  v_MOST_POINTS : GV K mg "MOST_POINTS" (.int 256)
  eq_Space : EqC K (He.ga K "Space")
  ne_Space : NeC K (He.ga K "Space")
  g_Draft : mg "Draft" = some (.ref (He.ga K "Draft"))
  g_Space : mg "Space" = some (.ref (He.ga K "Space"))
  g__law_after : mg "_law_after" = some (.ref (He.ga K "_law_after"))
  g__law_deed : mg "_law_deed" = some (.ref (He.ga K "_law_deed"))
  g__law_did : mg "_law_did" = some (.ref (He.ga K "_law_did"))
  g__law_draft_tells : mg "_law_draft_tells" = some (.ref (He.ga K "_law_draft_tells"))
  g__law_grown : mg "_law_grown" = some (.ref (He.ga K "_law_grown"))
  g__law_gulp : mg "_law_gulp" = some (.ref (He.ga K "_law_gulp"))
  g__law_mug : mg "_law_mug" = some (.ref (He.ga K "_law_mug"))
  g__law_near : mg "_law_near" = some (.ref (He.ga K "_law_near"))
  g__law_one : mg "_law_one" = some (.ref (He.ga K "_law_one"))
  g__law_right : mg "_law_right" = some (.ref (He.ga K "_law_right"))
  g__law_shuffled : mg "_law_shuffled" = some (.ref (He.ga K "_law_shuffled"))
  g__law_space_text : mg "_law_space_text" = some (.ref (He.ga K "_law_space_text"))
  g__law_state : mg "_law_state" = some (.ref (He.ga K "_law_state"))
  g__law_tags : mg "_law_tags" = some (.ref (He.ga K "_law_tags"))
  g__law_told : mg "_law_told" = some (.ref (He.ga K "_law_told"))
  g_bits_of : mg "bits_of" = some (.ref (He.ga K "bits_of"))
  g_check_point : mg "check_point" = some (.ref (He.ga K "check_point"))
  g_check_space : mg "check_space" = some (.ref (He.ga K "check_space"))
  g_indexes_of : mg "indexes_of" = some (.ref (He.ga K "indexes_of"))
  g_is_name : mg "is_name" = some (.ref (He.ga K "is_name"))
  g_is_ordered : mg "is_ordered" = some (.ref (He.ga K "is_ordered"))
  g_is_seeing : mg "is_seeing" = some (.ref (He.ga K "is_seeing"))
  g_law : mg "law" = some (.ref (He.ga K "law"))
  g_names_of : mg "names_of" = some (.ref (He.ga K "names_of"))
  g_read_row : mg "read_row" = some (.ref (He.ga K "read_row"))
  g_read_space : mg "read_space" = some (.ref (He.ga K "read_space"))
  g_text_of : mg "text_of" = some (.ref (He.ga K "text_of"))
  c_Draft : Cls K (He.ga K "Draft")
  c_Space : Cls K (He.ga K "Space")
  n_Draft_held : NoAttr K (He.ga K "Draft") "held"
  n_Space_order : NoAttr K (He.ga K "Space") "order"
  n_Space_seen : NoAttr K (He.ga K "Space") "seen"
  n_Space_told : NoAttr K (He.ga K "Space") "told"
  mk_Space : Mk K (He.ga K "Space") (He.ma K (He.ga K "Space") "__init__")
  mk_Draft : Mk K (He.ga K "Draft") (He.ma K (He.ga K "Draft") "__init__")
  pr_Draft_space : PropOf K (He.ga K "Draft") "space" (pa K "Draft" "space") (pg K "Draft" "space")
  pr_Space_text : PropOf K (He.ga K "Space") "text" (pa K "Space" "text") (pg K "Space" "text")
  pr_Draft_changes : PropOf K (He.ga K "Draft") "changes" (pa K "Draft" "changes") (pg K "Draft" "changes")
  pr_Space_points : PropOf K (He.ga K "Space") "points" (pa K "Space" "points") (pg K "Space" "points")
  me_Space_near : Meth K (He.ga K "Space") "near" (He.ma K (He.ga K "Space") "near")
  me_Draft_become : Meth K (He.ga K "Draft") "become" (He.ma K (He.ga K "Draft") "become")
  me_Draft_add : Meth K (He.ga K "Draft") "add" (He.ma K (He.ga K "Draft") "add")
  me_Draft_remove : Meth K (He.ga K "Draft") "remove" (He.ma K (He.ga K "Draft") "remove")
  me_Draft_cut : Meth K (He.ga K "Draft") "cut" (He.ma K (He.ga K "Draft") "cut")
  me_Draft_link : Meth K (He.ga K "Draft") "link" (He.ma K (He.ga K "Draft") "link")
  me_Space___eq__ : Meth K (He.ga K "Space") "__eq__" (He.ma K (He.ga K "Space") "__eq__")
  me_Draft_undo : Meth K (He.ga K "Draft") "undo" (He.ma K (He.ga K "Draft") "undo")
  isi : IsiC K isiCs
  d__law_gulp : ∃ fd, FunD K "_law_gulp" "_law_gulp" (defArgs s__law_gulp) (defBody s__law_gulp) (defScope s__law_gulp) [] [] (He.ga K "_law_gulp") fd
  d__law_shuffled : ∃ fd, FunD K "_law_shuffled" "_law_shuffled" (defArgs s__law_shuffled) (defBody s__law_shuffled) (defScope s__law_shuffled) [] [] (He.ga K "_law_shuffled") fd
  d__law_tags : ∃ fd, FunD K "_law_tags" "_law_tags" (defArgs s__law_tags) (defBody s__law_tags) (defScope s__law_tags) [] [] (He.ga K "_law_tags") fd
  d__law_one : ∃ fd, FunD K "_law_one" "_law_one" (defArgs s__law_one) (defBody s__law_one) (defScope s__law_one) [] [] (He.ga K "_law_one") fd
  d__law_grown : ∃ fd, FunD K "_law_grown" "_law_grown" (defArgs s__law_grown) (defBody s__law_grown) (defScope s__law_grown) [] [] (He.ga K "_law_grown") fd
  d__law_near : ∃ fd, FunD K "_law_near" "_law_near" (defArgs s__law_near) (defBody s__law_near) (defScope s__law_near) [] [] (He.ga K "_law_near") fd
  d_is_name : ∃ fd, FunD K "is_name" "is_name" (defArgs s_is_name) (defBody s_is_name) (defScope s_is_name) [] [] (He.ga K "is_name") fd
  d_read_row : ∃ fd, FunD K "read_row" "read_row" (defArgs s_read_row) (defBody s_read_row) (defScope s_read_row) [] [] (He.ga K "read_row") fd
  d_is_ordered : ∃ fd, FunD K "is_ordered" "is_ordered" (defArgs s_is_ordered) (defBody s_is_ordered) (defScope s_is_ordered) [] [] (He.ga K "is_ordered") fd
  d_bits_of : ∃ fd, FunD K "bits_of" "bits_of" (defArgs s_bits_of) (defBody s_bits_of) (defScope s_bits_of) [] [] (He.ga K "bits_of") fd
  d_indexes_of : ∃ fd, FunD K "indexes_of" "indexes_of" (defArgs s_indexes_of) (defBody s_indexes_of) (defScope s_indexes_of) [] [] (He.ga K "indexes_of") fd
  d_is_seeing : ∃ fd, FunD K "is_seeing" "is_seeing" (defArgs s_is_seeing) (defBody s_is_seeing) (defScope s_is_seeing) [] [] (He.ga K "is_seeing") fd
  d_read_space : ∃ fd, FunD K "read_space" "read_space" (defArgs s_read_space) (defBody s_read_space) (defScope s_read_space) [] [] (He.ga K "read_space") fd
  d_Space___init__ : ∃ fd, FunD K "__init__" "Space.__init__" (defArgs s_Space___init__) (defBody s_Space___init__) (defScope s_Space___init__) [] [] (He.ma K (He.ga K "Space") "__init__") fd
  d__law_space_text : ∃ fd, FunD K "_law_space_text" "_law_space_text" (defArgs s__law_space_text) (defBody s__law_space_text) (defScope s__law_space_text) [] [] (He.ga K "_law_space_text") fd
  d__law_state : ∃ fd, FunD K "_law_state" "_law_state" (defArgs s__law_state) (defBody s__law_state) (defScope s__law_state) [] [] (He.ga K "_law_state") fd
  d_check_space : ∃ fd, FunD K "check_space" "check_space" (defArgs s_check_space) (defBody s_check_space) (defScope s_check_space) [] [] (He.ga K "check_space") fd
  d_Draft___init__ : ∃ fd, FunD K "__init__" "Draft.__init__" (defArgs s_Draft___init__) (defBody s_Draft___init__) (defScope s_Draft___init__) [] [] (He.ma K (He.ga K "Draft") "__init__") fd
  d_Draft_space : ∃ fd, FunD K "space" "Draft.space" (defArgs s_Draft_space) (defBody s_Draft_space) (defScope s_Draft_space) [] [] (pg K "Draft" "space") fd
  d_Space_text : ∃ fd, FunD K "text" "Space.text" (defArgs s_Space_text) (defBody s_Space_text) (defScope s_Space_text) [] [] (pg K "Space" "text") fd
  d__law_told : ∃ fd, FunD K "_law_told" "_law_told" (defArgs s__law_told) (defBody s__law_told) (defScope s__law_told) [] [] (He.ga K "_law_told") fd
  d_Draft_changes : ∃ fd, FunD K "changes" "Draft.changes" (defArgs s_Draft_changes) (defBody s_Draft_changes) (defScope s_Draft_changes) [] [] (pg K "Draft" "changes") fd
  d_Space_points : ∃ fd, FunD K "points" "Space.points" (defArgs s_Space_points) (defBody s_Space_points) (defScope s_Space_points) [] [] (pg K "Space" "points") fd
  d_check_point : ∃ fd, FunD K "check_point" "check_point" (defArgs s_check_point) (defBody s_check_point) (defScope s_check_point) [] [] (He.ga K "check_point") fd
  d_names_of : ∃ fd, FunD K "names_of" "names_of" (defArgs s_names_of) (defBody s_names_of) (defScope s_names_of) [] [] (He.ga K "names_of") fd
  d_Space_near : ∃ fd, FunD K "near" "Space.near" (defArgs s_Space_near) (defBody s_Space_near) (defScope s_Space_near) [] [] (He.ma K (He.ga K "Space") "near") fd
  d__law_draft_tells : ∃ fd, FunD K "_law_draft_tells" "_law_draft_tells" (defArgs s__law_draft_tells) (defBody s__law_draft_tells) (defScope s__law_draft_tells) [] [] (He.ga K "_law_draft_tells") fd
  d__law_deed : ∃ fd, FunD K "_law_deed" "_law_deed" (defArgs s__law_deed) (defBody s__law_deed) (defScope s__law_deed) [] [] (He.ga K "_law_deed") fd
  d__law_after : ∃ fd, FunD K "_law_after" "_law_after" (defArgs s__law_after) (defBody s__law_after) (defScope s__law_after) [] [] (He.ga K "_law_after") fd
  d_text_of : ∃ fd, FunD K "text_of" "text_of" (defArgs s_text_of) (defBody s_text_of) (defScope s_text_of) [] [] (He.ga K "text_of") fd
  d_Draft_become : ∃ fd, FunD K "become" "Draft.become" (defArgs s_Draft_become) (defBody s_Draft_become) (defScope s_Draft_become) [] [] (He.ma K (He.ga K "Draft") "become") fd
  d_Draft_add : ∃ fd, FunD K "add" "Draft.add" (defArgs s_Draft_add) (defBody s_Draft_add) (defScope s_Draft_add) [] [] (He.ma K (He.ga K "Draft") "add") fd
  d_Draft_remove : ∃ fd, FunD K "remove" "Draft.remove" (defArgs s_Draft_remove) (defBody s_Draft_remove) (defScope s_Draft_remove) [] [] (He.ma K (He.ga K "Draft") "remove") fd
  d_Draft_cut : ∃ fd, FunD K "cut" "Draft.cut" (defArgs s_Draft_cut) (defBody s_Draft_cut) (defScope s_Draft_cut) [] [] (He.ma K (He.ga K "Draft") "cut") fd
  d_Draft_link : ∃ fd, FunD K "link" "Draft.link" (defArgs s_Draft_link) (defBody s_Draft_link) (defScope s_Draft_link) [] [] (He.ma K (He.ga K "Draft") "link") fd
  d__law_did : ∃ fd, FunD K "_law_did" "_law_did" (defArgs s__law_did) (defBody s__law_did) (defScope s__law_did) [] [] (He.ga K "_law_did") fd
  d_Space___eq__ : ∃ fd, FunD K "__eq__" "Space.__eq__" (defArgs s_Space___eq__) (defBody s_Space___eq__) (defScope s_Space___eq__) [] [] (He.ma K (He.ga K "Space") "__eq__") fd
  d_Draft_undo : ∃ fd, FunD K "undo" "Draft.undo" (defArgs s_Draft_undo) (defBody s_Draft_undo) (defScope s_Draft_undo) [] [] (He.ma K (He.ga K "Draft") "undo") fd
  d__law_right : ∃ fd, FunD K "_law_right" "_law_right" (defArgs s__law_right) (defBody s__law_right) (defScope s__law_right) [] [] (He.ga K "_law_right") fd
  d__law_mug : ∃ fd, FunD K "_law_mug" "_law_mug" (defArgs s__law_mug) (defBody s__law_mug) (defScope s__law_mug) [] [] (He.ga K "_law_mug") fd
  d_law : ∃ fd, FunD K "law" "law" (defArgs s_law) (defBody s_law) (defScope s_law) [] [] (He.ga K "law") fd
section
variable {P : Program} {w : World} {K : PySem.W.Frag} {mg : Str → Option Value} {base : Heap}
theorem sc__law_gulp : FnScope ["_law_mug_here", "_law_top", "_law_digit"] ["_law_mug_here", "_law_top"] (defScope s__law_gulp) := ⟨rfl, rfl, rfl, by decide +kernel, rfl, by decide +kernel, by decide +kernel⟩
theorem g__law_gulp (T : Tp K mg) : GF P w K mg base "_law_gulp" (defArgs s__law_gulp) ["_law_mug_here", "_law_top"] 1 m__law_gulp := by
  obtain ⟨fd, F⟩ := T.d__law_gulp
  refine ⟨T.g__law_gulp, F.kp, fd, ?_, FunD.bindsN F (fun _ _ _ _ _ _ us hl => match us, hl with | [_, _], _ => rfl), Mir.FunD.hasPar F, Mir.FunD.at_ F⟩
  refine fn_ok (k := 0) F sc__law_gulp rfl fun cdv A outer s H E hr => ?_
  have nd := sc__law_gulp.nd
  have tk := takes_of (X := cxOf (L2.CX P w) P w K mg base ["_law_mug_here", "_law_top", "_law_digit"] "_law_gulp" (defScope s__law_gulp) (He.ga K "_law_gulp") cdv A outer s H E) rfl rfl rfl rfl
  have po := passes_of (X := cxOf (L2.CX P w) P w K mg base ["_law_mug_here", "_law_top", "_law_digit"] "_law_gulp" (defScope s__law_gulp) (He.ga K "_law_gulp") cdv A outer s H E) rfl
  exact (oss_cons (os_if (ot_gt (oe_it (oe_var 0) oe_int) oe_int) (oss_cons (os_asg (oe_divmod T.f_divmod (oe_it (oe_var 0) oe_int) (oe_var 1)) (og_tup rfl (ogs_cons (og_sub (oe_var 0) oe_int) (ogs_cons (og_name nd) ogs_nil)))) (oss_one (os_ret (oe_var 2)))) oss_nil) (oss_cons (os_asg (oe_mod (oe_intC T.f_int (oe_add (oe_mul (oe_it (oe_var 0) oe_int) oe_int) oe_int)) oe_int) (og_sub (oe_var 0) oe_int)) (oss_one (os_ret (oe_mod (oe_intC T.f_int (oe_fdiv (oe_it (oe_var 0) oe_int) oe_int)) (oe_var 1))))))
theorem sc__law_shuffled : FnScope ["_law_mug_here", "_law_things", "_law_turn", "_law_found", "_law_rest", "_law_at"] ["_law_mug_here", "_law_things"] (defScope s__law_shuffled) := ⟨rfl, rfl, rfl, by decide +kernel, rfl, by decide +kernel, by decide +kernel⟩
theorem g__law_shuffled (T : Tp K mg) : GF P w K mg base "_law_shuffled" (defArgs s__law_shuffled) ["_law_mug_here", "_law_things"] 2 m__law_shuffled := by
  obtain ⟨fd, F⟩ := T.d__law_shuffled
  refine ⟨T.g__law_shuffled, F.kp, fd, ?_, FunD.bindsN F (fun _ _ _ _ _ _ us hl => match us, hl with | [_, _], _ => rfl), Mir.FunD.hasPar F, Mir.FunD.at_ F⟩
  refine fn_ok (k := 1) F sc__law_shuffled rfl fun cdv A outer s H E hr => ?_
  have nd := sc__law_shuffled.nd
  have tk := takes_of (X := cxOf (L2.CX P w) P w K mg base ["_law_mug_here", "_law_things", "_law_turn", "_law_found", "_law_rest", "_law_at"] "_law_shuffled" (defScope s__law_shuffled) (He.ga K "_law_shuffled") cdv A outer s H E) rfl rfl rfl rfl
  have po := passes_of (X := cxOf (L2.CX P w) P w K mg base ["_law_mug_here", "_law_things", "_law_turn", "_law_found", "_law_rest", "_law_at"] "_law_shuffled" (defScope s__law_shuffled) (He.ga K "_law_shuffled") cdv A outer s H E) rfl
  exact (oss_cons (os_par (i := 3) (j := 4) rfl nd (oa_cons (oe_lst oa_nil) (oa_cons (oe_listC T.f_list (oe_var 1)) oa_nil))) (oss_cons (os_for po rfl (oi_range1 T.f_range (oe_len T.f_len (oe_var 1))) (og_name nd) (oss_cons (os_set (i := 5) nd (oe_fn (g__law_gulp T) hr (by decide) tk (oa_cons (oe_var 0) (oa_cons (oe_len T.f_len (oe_var 4)) oa_nil)))) (oss_one (os_par (i := 3) (j := 4) rfl nd (oa_cons (oe_add (oe_var 3) (oe_lst (oa_cons (oe_it (oe_var 4) (oe_var 5)) oa_nil))) (oa_cons (oe_add (oe_slice (oe_var 4) oo_none (oo_some (oe_var 5))) (oe_slice (oe_var 4) (oo_some (oe_add (oe_var 5) oe_int)) oo_none)) oa_nil)))))) (oss_one (os_ret (oe_var 3)))))
theorem sc__law_tags : FnScope ["_law_mug_here", "_law_many", "_law_pool"] ["_law_mug_here", "_law_many"] (defScope s__law_tags) := ⟨rfl, rfl, rfl, by decide +kernel, rfl, by decide +kernel, by decide +kernel⟩
theorem g__law_tags (T : Tp K mg) : GF P w K mg base "_law_tags" (defArgs s__law_tags) ["_law_mug_here", "_law_many"] 3 m__law_tags := by
  obtain ⟨fd, F⟩ := T.d__law_tags
  refine ⟨T.g__law_tags, F.kp, fd, ?_, FunD.bindsN F (fun _ _ _ _ _ _ us hl => match us, hl with | [_, _], _ => rfl), Mir.FunD.hasPar F, Mir.FunD.at_ F⟩
  refine fn_ok (k := 2) F sc__law_tags rfl fun cdv A outer s H E hr => ?_
  have nd := sc__law_tags.nd
  have tk := takes_of (X := cxOf (L2.CX P w) P w K mg base ["_law_mug_here", "_law_many", "_law_pool"] "_law_tags" (defScope s__law_tags) (He.ga K "_law_tags") cdv A outer s H E) rfl rfl rfl rfl
  have po := passes_of (X := cxOf (L2.CX P w) P w K mg base ["_law_mug_here", "_law_many", "_law_pool"] "_law_tags" (defScope s__law_tags) (He.ga K "_law_tags") cdv A outer s H E) rfl
  exact (oss_cons (os_set (i := 2) nd (oe_lst (oa_cons oe_str (oa_cons oe_str (oa_cons oe_str (oa_cons oe_str (oa_cons oe_str (oa_cons oe_str (oa_cons oe_str (oa_cons oe_str (oa_cons oe_str (oa_cons oe_str (oa_cons oe_str (oa_cons oe_str (oa_cons oe_str (oa_cons oe_str (oa_cons oe_str (oa_cons oe_str oa_nil)))))))))))))))))) (oss_one (os_ret (oe_slice (oe_fn (g__law_shuffled T) hr (by decide) tk (oa_cons (oe_var 0) (oa_cons (oe_var 2) oa_nil))) oo_none (oo_some (oe_var 1))))))
theorem sc__law_one : FnScope ["_law_mug_here", "_law_things"] ["_law_mug_here", "_law_things"] (defScope s__law_one) := ⟨rfl, rfl, rfl, by decide +kernel, rfl, by decide +kernel, by decide +kernel⟩
theorem g__law_one (T : Tp K mg) : GF P w K mg base "_law_one" (defArgs s__law_one) ["_law_mug_here", "_law_things"] 2 m__law_one := by
  obtain ⟨fd, F⟩ := T.d__law_one
  refine ⟨T.g__law_one, F.kp, fd, ?_, FunD.bindsN F (fun _ _ _ _ _ _ us hl => match us, hl with | [_, _], _ => rfl), Mir.FunD.hasPar F, Mir.FunD.at_ F⟩
  refine fn_ok (k := 1) F sc__law_one rfl fun cdv A outer s H E hr => ?_
  have nd := sc__law_one.nd
  have tk := takes_of (X := cxOf (L2.CX P w) P w K mg base ["_law_mug_here", "_law_things"] "_law_one" (defScope s__law_one) (He.ga K "_law_one") cdv A outer s H E) rfl rfl rfl rfl
  have po := passes_of (X := cxOf (L2.CX P w) P w K mg base ["_law_mug_here", "_law_things"] "_law_one" (defScope s__law_one) (He.ga K "_law_one") cdv A outer s H E) rfl
  exact (oss_one (os_ret (oe_it (oe_var 1) (oe_fn (g__law_gulp T) hr (by decide) tk (oa_cons (oe_var 0) (oa_cons (oe_len T.f_len (oe_var 1)) oa_nil))))))
theorem sc__law_grown : FnScope ["_law_near_here", "_law_found", "_law_turn", "_law_k", "_law_some", "_law_mid"] ["_law_near_here"] (defScope s__law_grown) := ⟨rfl, rfl, rfl, by decide +kernel, rfl, by decide +kernel, by decide +kernel⟩
theorem g__law_grown (T : Tp K mg) : GF P w K mg base "_law_grown" (defArgs s__law_grown) ["_law_near_here"] 1 m__law_grown := by
  obtain ⟨fd, F⟩ := T.d__law_grown
  refine ⟨T.g__law_grown, F.kp, fd, ?_, FunD.bindsN F (fun _ _ _ _ _ _ us hl => match us, hl with | [_], _ => rfl), Mir.FunD.hasPar F, Mir.FunD.at_ F⟩
  refine fn_ok (k := 0) F sc__law_grown rfl fun cdv A outer s H E hr => ?_
  have nd := sc__law_grown.nd
  have tk := takes_of (X := cxOf (L2.CX P w) P w K mg base ["_law_near_here", "_law_found", "_law_turn", "_law_k", "_law_some", "_law_mid"] "_law_grown" (defScope s__law_grown) (He.ga K "_law_grown") cdv A outer s H E) rfl rfl rfl rfl
  have po := passes_of (X := cxOf (L2.CX P w) P w K mg base ["_law_near_here", "_law_found", "_law_turn", "_law_k", "_law_some", "_law_mid"] "_law_grown" (defScope s__law_grown) (He.ga K "_law_grown") cdv A outer s H E) rfl
  exact (oss_cons (os_setLcC (i := 1) rfl nd (oi_of (oe_var 0)) (own := [("_law_some", 4)]) (blkOk_by rfl) (by decide) (fun _ _ _ _ _ => (og_name nd)) (fun _ _ _ _ _ => ots_nil) (fun _ _ _ _ _ => (oe_listC T.f_list (oe_var 4)))) (oss_cons (os_for po rfl (oi_range1 T.f_range (oe_len T.f_len (oe_var 0))) (og_name nd) (oss_one (os_for po rfl (oi_range1 T.f_range (oe_len T.f_len (oe_var 0))) (og_name nd) (oss_one (os_for po rfl (oi_of (oe_listC T.f_list (oe_it (oe_var 1) (oe_var 3)))) (og_name nd) (oss_one (os_asg (oe_srtSet rfl T.f_sorted T.f_set (oe_add (oe_it (oe_var 1) (oe_var 3)) (oe_it (oe_var 1) (oe_var 5)))) (og_sub (oe_var 1) (oe_var 3))))))))) (oss_one (os_ret (oe_var 1)))))
theorem sc__law_near : FnScope ["_law_mug_here", "_law_size", "_law_share", "_law_drawn", "_law_k", "_law_j"] ["_law_mug_here", "_law_size"] (defScope s__law_near) := ⟨rfl, rfl, rfl, by decide +kernel, rfl, by decide +kernel, by decide +kernel⟩
theorem g__law_near (T : Tp K mg) : GF P w K mg base "_law_near" (defArgs s__law_near) ["_law_mug_here", "_law_size"] 3 m__law_near := by
  obtain ⟨fd, F⟩ := T.d__law_near
  refine ⟨T.g__law_near, F.kp, fd, ?_, FunD.bindsN F (fun _ _ _ _ _ _ us hl => match us, hl with | [_, _], _ => rfl), Mir.FunD.hasPar F, Mir.FunD.at_ F⟩
  refine fn_ok (k := 2) F sc__law_near rfl fun cdv A outer s H E hr => ?_
  have nd := sc__law_near.nd
  have tk := takes_of (X := cxOf (L2.CX P w) P w K mg base ["_law_mug_here", "_law_size", "_law_share", "_law_drawn", "_law_k", "_law_j"] "_law_near" (defScope s__law_near) (He.ga K "_law_near") cdv A outer s H E) rfl rfl rfl rfl
  have po := passes_of (X := cxOf (L2.CX P w) P w K mg base ["_law_mug_here", "_law_size", "_law_share", "_law_drawn", "_law_k", "_law_j"] "_law_near" (defScope s__law_near) (He.ga K "_law_near") cdv A outer s H E) rfl
  exact (oss_cons (os_set (i := 2) nd (oe_fn (g__law_one T) hr (by decide) tk (oa_cons (oe_var 0) (oa_cons (oe_lst (oa_cons oe_int (oa_cons oe_int (oa_cons oe_int (oa_cons oe_int oa_nil))))) oa_nil)))) (oss_cons (os_set (i := 3) nd (oe_lstC oa_nil)) (oss_cons (os_for po rfl (oi_range1 T.f_range (oe_var 1)) (og_name nd) (oss_one (os_expr (oe_append (oe_var 3) (oe_add (oe_lst (oa_cons (oe_var 4) oa_nil)) (oe_lc rfl nd (oi_range1 T.f_range (oe_var 1)) (own := [("_law_j", 5)]) (blkOk_by rfl) (by decide) (fun _ _ _ _ _ => (og_name nd)) (fun _ _ _ _ _ => ots_one (ot_w (ow_and (ot_ne hr.r (oe_var 5) (oe_var 4)) (ow_and1 (ot_lt (oe_fn (g__law_gulp T) hr (by decide) Mir.takes0 (oa_cons (oe_var 0) (oa_cons oe_int oa_nil))) (oe_var 2)))))) (fun _ _ _ _ _ => (oe_var 5)))))))) (oss_one (os_ret (oe_fn (g__law_grown T) hr (by decide) tk (oa_cons (oe_var 3) oa_nil)))))))
theorem sc_is_name : FnScope ["value", "value_here", "sign"] ["value"] (defScope s_is_name) := ⟨rfl, rfl, rfl, by decide +kernel, rfl, by decide +kernel, by decide +kernel⟩
theorem g_is_name (T : Tp K mg) : GF P w K mg base "is_name" (defArgs s_is_name) ["value"] 1 m_is_name := by
  obtain ⟨fd, F⟩ := T.d_is_name
  refine ⟨T.g_is_name, F.kp, fd, ?_, FunD.bindsN F (fun _ _ _ _ _ _ us hl => match us, hl with | [_], _ => rfl), Mir.FunD.hasPar F, Mir.FunD.at_ F⟩
  refine fn_ok (k := 0) F sc_is_name rfl fun cdv A outer s H E hr => ?_
  have nd := sc_is_name.nd
  have tk := takes_of (X := cxOf (L2.CX P w) P w K mg base ["value", "value_here", "sign"] "is_name" (defScope s_is_name) (He.ga K "is_name") cdv A outer s H E) rfl rfl rfl rfl
  have po := passes_of (X := cxOf (L2.CX P w) P w K mg base ["value", "value_here", "sign"] "is_name" (defScope s_is_name) (He.ga K "is_name") cdv A outer s H E) rfl
  exact (oss_cons (os_set (i := 1) nd (oe_var 0)) (oss_cons (os_if (ot_w (ow_or (ot_not (ot_val (oe_isi T.isi T.f_isinstance (oe_var 0) (oe_bT T.f_str)))) (ow_or (ot_not (ot_lele oe_int (oe_len T.f_len (oe_var 0)) (oe_gV T.v_LONGEST))) (ow_or1 (ot_notIn2 hr.r (oe_it (oe_var 0) oe_int) (oe_gV T.v_LETTERS)))))) (oss_one (os_ret oe_bl)) oss_nil) (oss_one (os_ret (oe_all rfl T.f_all (oe_lc rfl nd (oi_of (oe_var 1)) (own := [("sign", 2)]) (blkOk_by rfl) (by decide) (fun _ _ _ _ _ => (og_name nd)) (fun _ _ _ _ _ => ots_nil) (fun _ _ _ _ _ => (oe_or (oe_in2 hr.r (oe_var 2) (oe_gV T.v_LETTERS)) (oe_one (oe_in2 hr.r (oe_var 2) (oe_gV T.v_DIGITS)))))))))))
theorem sc_read_row : FnScope ["row", "found", "name", "mark", "tail"] ["row"] (defScope s_read_row) := ⟨rfl, rfl, rfl, by decide +kernel, rfl, by decide +kernel, by decide +kernel⟩
theorem g_read_row (T : Tp K mg) : GF P w K mg base "read_row" (defArgs s_read_row) ["row"] 2 m_read_row := by
  obtain ⟨fd, F⟩ := T.d_read_row
  refine ⟨T.g_read_row, F.kp, fd, ?_, FunD.bindsN F (fun _ _ _ _ _ _ us hl => match us, hl with | [_], _ => rfl), Mir.FunD.hasPar F, Mir.FunD.at_ F⟩
  refine fn_ok (k := 1) F sc_read_row rfl fun cdv A outer s H E hr => ?_
  have nd := sc_read_row.nd
  have tk := takes_of (X := cxOf (L2.CX P w) P w K mg base ["row", "found", "name", "mark", "tail"] "read_row" (defScope s_read_row) (He.ga K "read_row") cdv A outer s H E) rfl rfl rfl rfl
  have po := passes_of (X := cxOf (L2.CX P w) P w K mg base ["row", "found", "name", "mark", "tail"] "read_row" (defScope s_read_row) (He.ga K "read_row") cdv A outer s H E) rfl
  exact (oss_cons (os_asg (oe_partition (oe_var 0) oe_str) (og_tup rfl (ogs_cons (og_name nd) (ogs_cons (og_name nd) (ogs_cons (og_name nd) ogs_nil))))) (oss_cons (os_set (i := 1) nd (oe_split (oe_var 4) oe_str)) (oss_one (os_ret (oe_if (ot_w (ow_and (ot_ne hr.r (oe_var 3) oe_str) (ow_and1 (ot_val (oe_fn (g_is_name T) hr (by decide) tk (oa_cons (oe_var 2) oa_nil)))))) (oe_tup (oa_cons (oe_var 2) (oa_cons (oe_var 1) oa_nil))) oe_non)))))
theorem sc_is_ordered : FnScope ["order", "names", "places", "name", "at"] ["order", "names"] (defScope s_is_ordered) := ⟨rfl, rfl, rfl, by decide +kernel, rfl, by decide +kernel, by decide +kernel⟩
theorem g_is_ordered (T : Tp K mg) : GF P w K mg base "is_ordered" (defArgs s_is_ordered) ["order", "names"] 1 m_is_ordered := by
  obtain ⟨fd, F⟩ := T.d_is_ordered
  refine ⟨T.g_is_ordered, F.kp, fd, ?_, FunD.bindsN F (fun _ _ _ _ _ _ us hl => match us, hl with | [_, _], _ => rfl), Mir.FunD.hasPar F, Mir.FunD.at_ F⟩
  refine fn_ok (k := 0) F sc_is_ordered rfl fun cdv A outer s H E hr => ?_
  have nd := sc_is_ordered.nd
  have tk := takes_of (X := cxOf (L2.CX P w) P w K mg base ["order", "names", "places", "name", "at"] "is_ordered" (defScope s_is_ordered) (He.ga K "is_ordered") cdv A outer s H E) rfl rfl rfl rfl
  have po := passes_of (X := cxOf (L2.CX P w) P w K mg base ["order", "names", "places", "name", "at"] "is_ordered" (defScope s_is_ordered) (He.ga K "is_ordered") cdv A outer s H E) rfl
  exact (oss_cons (os_set (i := 2) nd (oe_lc rfl nd (oi_of (oe_var 1)) (own := [("name", 3)]) (blkOk_by rfl) (by decide) (fun _ _ _ _ _ => (og_name nd)) (fun _ _ _ _ _ => ots_nil) (fun _ _ _ _ _ => (oe_if (ot_in2 hr.r (oe_var 3) (oe_var 0)) (oe_index (oe_var 0) (oe_var 3)) (oe_neg oe_int))))) (oss_one (os_ret (oe_and (oe_all rfl T.f_all (oe_lc rfl nd (oi_of (oe_var 2)) (own := [("at", 4)]) (blkOk_by rfl) (by decide) (fun _ _ _ _ _ => (og_name nd)) (fun _ _ _ _ _ => ots_nil) (fun _ _ _ _ _ => (oe_ge (oe_var 4) oe_int)))) (oe_one (oe_all rfl T.f_all (oe_lc rfl nd (oi_range2 T.f_range oe_int (oe_len T.f_len (oe_var 2))) (own := [("at", 4)]) (blkOk_by rfl) (by decide) (fun _ _ _ _ _ => (og_name nd)) (fun _ _ _ _ _ => ots_nil) (fun _ _ _ _ _ => (oe_lt (oe_it (oe_var 2) (oe_sub (oe_var 4) oe_int)) (oe_it (oe_var 2) (oe_var 4)))))))))))
theorem sc_bits_of : FnScope ["order", "names", "name"] ["order", "names"] (defScope s_bits_of) := ⟨rfl, rfl, rfl, by decide +kernel, rfl, by decide +kernel, by decide +kernel⟩
theorem g_bits_of (T : Tp K mg) : GF P w K mg base "bits_of" (defArgs s_bits_of) ["order", "names"] 1 m_bits_of := by
  obtain ⟨fd, F⟩ := T.d_bits_of
  refine ⟨T.g_bits_of, F.kp, fd, ?_, FunD.bindsN F (fun _ _ _ _ _ _ us hl => match us, hl with | [_, _], _ => rfl), Mir.FunD.hasPar F, Mir.FunD.at_ F⟩
  refine fn_ok (k := 0) F sc_bits_of rfl fun cdv A outer s H E hr => ?_
  have nd := sc_bits_of.nd
  have tk := takes_of (X := cxOf (L2.CX P w) P w K mg base ["order", "names", "name"] "bits_of" (defScope s_bits_of) (He.ga K "bits_of") cdv A outer s H E) rfl rfl rfl rfl
  have po := passes_of (X := cxOf (L2.CX P w) P w K mg base ["order", "names", "name"] "bits_of" (defScope s_bits_of) (He.ga K "bits_of") cdv A outer s H E) rfl
  exact (oss_one (os_ret (oe_sum rfl T.f_sum (oe_lc rfl nd (oi_of (oe_var 1)) (own := [("name", 2)]) (blkOk_by rfl) (by decide) (fun _ _ _ _ _ => (og_name nd)) (fun _ _ _ _ _ => ots_nil) (fun _ _ _ _ _ => (oe_shl oe_int (oe_index (oe_var 0) (oe_var 2))))))))
theorem sc_indexes_of : FnScope ["bits", "at"] ["bits"] (defScope s_indexes_of) := ⟨rfl, rfl, rfl, by decide +kernel, rfl, by decide +kernel, by decide +kernel⟩
theorem g_indexes_of (T : Tp K mg) : GF P w K mg base "indexes_of" (defArgs s_indexes_of) ["bits"] 1 m_indexes_of := by
  obtain ⟨fd, F⟩ := T.d_indexes_of
  refine ⟨T.g_indexes_of, F.kp, fd, ?_, FunD.bindsN F (fun _ _ _ _ _ _ us hl => match us, hl with | [_], _ => rfl), Mir.FunD.hasPar F, Mir.FunD.at_ F⟩
  refine fn_ok (k := 0) F sc_indexes_of rfl fun cdv A outer s H E hr => ?_
  have nd := sc_indexes_of.nd
  have tk := takes_of (X := cxOf (L2.CX P w) P w K mg base ["bits", "at"] "indexes_of" (defScope s_indexes_of) (He.ga K "indexes_of") cdv A outer s H E) rfl rfl rfl rfl
  have po := passes_of (X := cxOf (L2.CX P w) P w K mg base ["bits", "at"] "indexes_of" (defScope s_indexes_of) (He.ga K "indexes_of") cdv A outer s H E) rfl
  exact (oss_one (os_ret (oe_lc rfl nd (oi_range1 T.f_range (oe_bits (oe_var 0))) (own := [("at", 1)]) (blkOk_by rfl) (by decide) (fun _ _ _ _ _ => (og_name nd)) (fun _ _ _ _ _ => ots_one (ot_eq hr.r (oe_band (oe_shr (oe_var 0) (oe_var 1)) oe_int) oe_int)) (fun _ _ _ _ _ => (oe_var 1)))))
theorem sc_is_seeing : FnScope ["near", "at", "bits", "other"] ["near"] (defScope s_is_seeing) := ⟨rfl, rfl, rfl, by decide +kernel, rfl, by decide +kernel, by decide +kernel⟩
theorem g_is_seeing (T : Tp K mg) : GF P w K mg base "is_seeing" (defArgs s_is_seeing) ["near"] 2 m_is_seeing := by
  obtain ⟨fd, F⟩ := T.d_is_seeing
  refine ⟨T.g_is_seeing, F.kp, fd, ?_, FunD.bindsN F (fun _ _ _ _ _ _ us hl => match us, hl with | [_], _ => rfl), Mir.FunD.hasPar F, Mir.FunD.at_ F⟩
  refine fn_ok (k := 1) F sc_is_seeing rfl fun cdv A outer s H E hr => ?_
  have nd := sc_is_seeing.nd
  have tk := takes_of (X := cxOf (L2.CX P w) P w K mg base ["near", "at", "bits", "other"] "is_seeing" (defScope s_is_seeing) (He.ga K "is_seeing") cdv A outer s H E) rfl rfl rfl rfl
  have po := passes_of (X := cxOf (L2.CX P w) P w K mg base ["near", "at", "bits", "other"] "is_seeing" (defScope s_is_seeing) (He.ga K "is_seeing") cdv A outer s H E) rfl
  exact (oss_cons (os_for po rfl (oi_enum T.f_enumerate (oe_var 0)) (og_tup rfl (ogs_cons (og_name nd) (ogs_cons (og_name nd) ogs_nil))) (oss_one (os_if (ot_w (ow_or (ot_eq hr.r (oe_band (oe_shr (oe_var 2) (oe_var 1)) oe_int) oe_int) (ow_or1 (ot_val (oe_any rfl T.f_any (oe_lc rfl nd (oi_of (oe_fn (g_indexes_of T) hr (by decide) tk (oa_cons (oe_var 2) oa_nil))) (own := [("other", 3)]) (blkOk_by rfl) (by decide) (fun _ _ _ _ _ => (og_name nd)) (fun _ _ _ _ _ => ots_nil) (fun _ _ _ _ _ => (oe_ne hr.r (oe_band (oe_it (oe_var 0) (oe_var 3)) (oe_inv (oe_var 2))) oe_int)))))))) (oss_one (os_ret oe_bl)) oss_nil))) (oss_one (os_ret oe_bl)))
theorem sc_read_space : FnScope ["text", "rows", "order", "near", "row", "name", "names"] ["text"] (defScope s_read_space) := ⟨rfl, rfl, rfl, by decide +kernel, rfl, by decide +kernel, by decide +kernel⟩
theorem g_read_space (T : Tp K mg) : GF P w K mg base "read_space" (defArgs s_read_space) ["text"] 3 m_read_space := by
  obtain ⟨fd, F⟩ := T.d_read_space
  refine ⟨T.g_read_space, F.kp, fd, ?_, FunD.bindsN F (fun _ _ _ _ _ _ us hl => match us, hl with | [_], _ => rfl), Mir.FunD.hasPar F, Mir.FunD.at_ F⟩
  refine fn_ok (k := 2) F sc_read_space rfl fun cdv A outer s H E hr => ?_
  have nd := sc_read_space.nd
  have tk := takes_of (X := cxOf (L2.CX P w) P w K mg base ["text", "rows", "order", "near", "row", "name", "names"] "read_space" (defScope s_read_space) (He.ga K "read_space") cdv A outer s H E) rfl rfl rfl rfl
  have po := passes_of (X := cxOf (L2.CX P w) P w K mg base ["text", "rows", "order", "near", "row", "name", "names"] "read_space" (defScope s_read_space) (He.ga K "read_space") cdv A outer s H E) rfl
  exact (oss_cons (os_setLc (i := 1) rfl nd (oi_of (oe_split (oe_var 0) oe_str)) (own := [("row", 4)]) (blkOk_by rfl) (by decide) (fun _ _ _ _ _ => (og_name nd)) (fun _ _ _ _ _ => ots_nil) (fun _ _ _ _ _ => (oe_fn (g_read_row T) hr (by decide) Mir.takes0 (oa_cons (oe_var 4) oa_nil)))) (oss_cons (os_if (ot_w (ow_or (ot_in2 hr.r oe_non (oe_var 1)) (ow_or1 (ot_gt (oe_len T.f_len (oe_var 1)) (oe_gV T.v_MOST_POINTS))))) (oss_one (os_ret oe_non)) oss_nil) (oss_cons (os_set (i := 2) nd (oe_lc rfl nd (oi_of (oe_var 1)) (own := [("name", 5), ("near", 3)]) (blkOk_by rfl) (by decide) (fun _ _ _ _ _ => (og_tup rfl (ogs_cons (og_name nd) (ogs_cons (og_name nd) ogs_nil)))) (fun _ _ _ _ _ => ots_nil) (fun _ _ _ _ _ => (oe_var 5)))) (oss_cons (os_if (ot_w (ow_or (ot_ne hr.r (oe_len T.f_len (oe_dictP rfl T.f_dict (oe_var 1))) (oe_len T.f_len (oe_var 1))) (ow_or1 (ot_not (ot_val (oe_all rfl T.f_all (oe_lc rfl nd (oi_of (oe_var 1)) (own := [("name", 5), ("near", 3)]) (blkOk_by rfl) (by decide) (fun _ _ _ _ _ => (og_tup rfl (ogs_cons (og_name nd) (ogs_cons (og_name nd) ogs_nil)))) (fun _ _ _ _ _ => ots_nil) (fun _ _ _ _ _ => (oe_fn (g_is_ordered T) hr (by decide) Mir.takes0 (oa_cons (oe_var 2) (oa_cons (oe_var 3) oa_nil))))))))))) (oss_one (os_ret oe_non)) oss_nil) (oss_cons (os_setLc (i := 3) rfl nd (oi_of (oe_var 1)) (own := [("name", 5), ("names", 6)]) (blkOk_by rfl) (by decide) (fun _ _ _ _ _ => (og_tup rfl (ogs_cons (og_name nd) (ogs_cons (og_name nd) ogs_nil)))) (fun _ _ _ _ _ => ots_nil) (fun _ _ _ _ _ => (oe_fn (g_bits_of T) hr (by decide) Mir.takes0 (oa_cons (oe_var 2) (oa_cons (oe_var 6) oa_nil))))) (oss_one (os_ret (oe_if (ot_val (oe_fn (g_is_seeing T) hr (by decide) tk (oa_cons (oe_var 3) oa_nil))) (oe_tup (oa_cons (oe_var 2) (oa_cons (oe_var 3) oa_nil))) oe_non))))))))
theorem sc_Space___init__ : FnScope ["self", "text", "found"] ["self", "text"] (defScope s_Space___init__) := ⟨rfl, rfl, rfl, by decide +kernel, rfl, by decide +kernel, by decide +kernel⟩
theorem g_Space___init__ (T : Tp K mg) : GC P w K mg base "Space" (defArgs s_Space___init__) ["self", "text"] 4 m_Space___init__ := by
  obtain ⟨fd, F⟩ := T.d_Space___init__
  refine ⟨T.g_Space, T.mk_Space, fd, ?_, FunD.bindsN F (fun _ _ _ _ _ _ us hl => match us, hl with | [_, _], _ => rfl), Mir.FunD.hasPar F⟩
  refine fn_ok (k := 3) F sc_Space___init__ rfl fun cdv A outer s H E hr => ?_
  have nd := sc_Space___init__.nd
  have tk := takes_of (X := cxOf (L2.CX P w) P w K mg base ["self", "text", "found"] "Space.__init__" (defScope s_Space___init__) (He.ma K (He.ga K "Space") "__init__") cdv A outer s H E) rfl rfl rfl rfl
  have po := passes_of (X := cxOf (L2.CX P w) P w K mg base ["self", "text", "found"] "Space.__init__" (defScope s_Space___init__) (He.ma K (He.ga K "Space") "__init__") cdv A outer s H E) rfl
  exact (oss_cons (os_set (i := 2) nd (oe_if (ot_val (oe_isi T.isi T.f_isinstance (oe_var 1) (oe_bT T.f_str))) (oe_fn (g_read_space T) hr (by decide) tk (oa_cons (oe_var 1) oa_nil)) oe_non)) (oss_cons (os_if (ot_isN (oe_var 2)) (oss_one os_never) oss_nil) (oss_one (os_parG rfl (oa_cons (oe_var 1) (oa_cons (oe_it (oe_var 2) oe_int) (oa_cons (oe_it (oe_var 2) oe_int) oa_nil))) (ogs_cons (og_fld T.c_Space T.n_Space_told (oe_var 0)) (ogs_cons (og_fld T.c_Space T.n_Space_order (oe_var 0)) (ogs_cons (og_fld T.c_Space T.n_Space_seen (oe_var 0)) ogs_nil)))))))
theorem sc__law_space_text : FnScope ["_law_tags_here", "_law_near_here", "_law_k", "_law_j"] ["_law_tags_here", "_law_near_here"] (defScope s__law_space_text) := ⟨rfl, rfl, rfl, by decide +kernel, rfl, by decide +kernel, by decide +kernel⟩
theorem g__law_space_text (T : Tp K mg) : GF P w K mg base "_law_space_text" (defArgs s__law_space_text) ["_law_tags_here", "_law_near_here"] 1 m__law_space_text := by
  obtain ⟨fd, F⟩ := T.d__law_space_text
  refine ⟨T.g__law_space_text, F.kp, fd, ?_, FunD.bindsN F (fun _ _ _ _ _ _ us hl => match us, hl with | [_, _], _ => rfl), Mir.FunD.hasPar F, Mir.FunD.at_ F⟩
  refine fn_ok (k := 0) F sc__law_space_text rfl fun cdv A outer s H E hr => ?_
  have nd := sc__law_space_text.nd
  have tk := takes_of (X := cxOf (L2.CX P w) P w K mg base ["_law_tags_here", "_law_near_here", "_law_k", "_law_j"] "_law_space_text" (defScope s__law_space_text) (He.ga K "_law_space_text") cdv A outer s H E) rfl rfl rfl rfl
  have po := passes_of (X := cxOf (L2.CX P w) P w K mg base ["_law_tags_here", "_law_near_here", "_law_k", "_law_j"] "_law_space_text" (defScope s__law_space_text) (He.ga K "_law_space_text") cdv A outer s H E) rfl
  exact (oss_one (os_ret (oe_join oe_str (oe_lc rfl nd (oi_range1 T.f_range (oe_len T.f_len (oe_var 1))) (own := [("_law_k", 2)]) (blkOk_by rfl) (by decide) (fun _ _ _ _ _ => (og_name nd)) (fun _ _ _ _ _ => ots_nil) (fun _ _ _ _ _ => (oe_add (oe_add (oe_it (oe_var 0) (oe_var 2)) oe_str) (oe_join oe_str (oe_lc rfl nd (oi_of (oe_sorted T.f_sorted (oe_it (oe_var 1) (oe_var 2)))) (own := [("_law_j", 3)]) (blkOk_by rfl) (by decide) (fun _ _ _ _ _ => (og_name nd)) (fun _ _ _ _ _ => ots_nil) (fun _ _ _ _ _ => (oe_it (oe_var 0) (oe_var 3)))))))))))
theorem sc__law_state : FnScope ["_law_tags_here", "_law_near_here", "_law_found", "_law_k", "_law_j"] ["_law_tags_here", "_law_near_here"] (defScope s__law_state) := ⟨rfl, rfl, rfl, by decide +kernel, rfl, by decide +kernel, by decide +kernel⟩
theorem g__law_state (T : Tp K mg) : GF P w K mg base "_law_state" (defArgs s__law_state) ["_law_tags_here", "_law_near_here"] 1 m__law_state := by
  obtain ⟨fd, F⟩ := T.d__law_state
  refine ⟨T.g__law_state, F.kp, fd, ?_, FunD.bindsN F (fun _ _ _ _ _ _ us hl => match us, hl with | [_, _], _ => rfl), Mir.FunD.hasPar F, Mir.FunD.at_ F⟩
  refine fn_ok (k := 0) F sc__law_state rfl fun cdv A outer s H E hr => ?_
  have nd := sc__law_state.nd
  have tk := takes_of (X := cxOf (L2.CX P w) P w K mg base ["_law_tags_here", "_law_near_here", "_law_found", "_law_k", "_law_j"] "_law_state" (defScope s__law_state) (He.ga K "_law_state") cdv A outer s H E) rfl rfl rfl rfl
  have po := passes_of (X := cxOf (L2.CX P w) P w K mg base ["_law_tags_here", "_law_near_here", "_law_found", "_law_k", "_law_j"] "_law_state" (defScope s__law_state) (He.ga K "_law_state") cdv A outer s H E) rfl
  exact (oss_cons (os_set (i := 2) nd oe_dctC) (oss_cons (os_for po rfl (oi_range1 T.f_range (oe_len T.f_len (oe_var 1))) (og_name nd) (oss_one (os_putK hr.r (oe_var 2) (oe_it (oe_var 0) (oe_var 3)) (oe_lc rfl nd (oi_of (oe_it (oe_var 1) (oe_var 3))) (own := [("_law_j", 4)]) (blkOk_by rfl) (by decide) (fun _ _ _ _ _ => (og_name nd)) (fun _ _ _ _ _ => ots_nil) (fun _ _ _ _ _ => (oe_it (oe_var 0) (oe_var 4))))))) (oss_one (os_ret (oe_tup (oa_cons (oe_listC T.f_list (oe_slice (oe_var 0) oo_none (oo_some (oe_len T.f_len (oe_var 1))))) (oa_cons (oe_var 2) oa_nil)))))))
theorem sc_check_space : FnScope ["thing"] ["thing"] (defScope s_check_space) := ⟨rfl, rfl, rfl, by decide +kernel, rfl, by decide +kernel, by decide +kernel⟩
theorem g_check_space (T : Tp K mg) : GF P w K mg base "check_space" (defArgs s_check_space) ["thing"] 1 m_check_space := by
  obtain ⟨fd, F⟩ := T.d_check_space
  refine ⟨T.g_check_space, F.kp, fd, ?_, FunD.bindsN F (fun _ _ _ _ _ _ us hl => match us, hl with | [_], _ => rfl), Mir.FunD.hasPar F, Mir.FunD.at_ F⟩
  refine fn_ok (k := 0) F sc_check_space rfl fun cdv A outer s H E hr => ?_
  have nd := sc_check_space.nd
  have tk := takes_of (X := cxOf (L2.CX P w) P w K mg base ["thing"] "check_space" (defScope s_check_space) (He.ga K "check_space") cdv A outer s H E) rfl rfl rfl rfl
  have po := passes_of (X := cxOf (L2.CX P w) P w K mg base ["thing"] "check_space" (defScope s_check_space) (He.ga K "check_space") cdv A outer s H E) rfl
  exact (oss_one (os_if (ot_not (ot_val (oe_isi T.isi T.f_isinstance (oe_var 0) (oe_gC T.g_Space)))) (oss_one os_never) oss_nil))
theorem sc_Draft___init__ : FnScope ["self", "space"] ["self", "space"] (defScope s_Draft___init__) := ⟨rfl, rfl, rfl, by decide +kernel, rfl, by decide +kernel, by decide +kernel⟩
theorem g_Draft___init__ (T : Tp K mg) : GC P w K mg base "Draft" (defArgs s_Draft___init__) ["self", "space"] 2 m_Draft___init__ := by
  obtain ⟨fd, F⟩ := T.d_Draft___init__
  refine ⟨T.g_Draft, T.mk_Draft, fd, ?_, FunD.bindsN F (fun _ _ _ _ _ _ us hl => match us, hl with | [_, _], _ => rfl), Mir.FunD.hasPar F⟩
  refine fn_ok (k := 1) F sc_Draft___init__ rfl fun cdv A outer s H E hr => ?_
  have nd := sc_Draft___init__.nd
  have tk := takes_of (X := cxOf (L2.CX P w) P w K mg base ["self", "space"] "Draft.__init__" (defScope s_Draft___init__) (He.ma K (He.ga K "Draft") "__init__") cdv A outer s H E) rfl rfl rfl rfl
  have po := passes_of (X := cxOf (L2.CX P w) P w K mg base ["self", "space"] "Draft.__init__" (defScope s_Draft___init__) (He.ma K (He.ga K "Draft") "__init__") cdv A outer s H E) rfl
  exact (oss_cons (os_expr (oe_fn (g_check_space T) hr (by decide) tk (oa_cons (oe_var 1) oa_nil))) (oss_one (os_asg (oe_tup (oa_cons (oe_var 1) (oa_cons oe_non (oa_cons oe_int oa_nil)))) (og_fld T.c_Draft T.n_Draft_held (oe_var 0)))))
theorem sc_Draft_space : FnScope ["self"] ["self"] (defScope s_Draft_space) := ⟨rfl, rfl, rfl, by decide +kernel, rfl, by decide +kernel, by decide +kernel⟩
theorem g_Draft_space (T : Tp K mg) : GP P w K mg base "Draft" "space" 1 m_Draft_space := by
  obtain ⟨fd, F⟩ := T.d_Draft_space
  refine ⟨T.c_Draft, _, _, fd, ["self"], T.pr_Draft_space, ?_, FunD.bindsN F (fun _ _ _ _ _ _ us hl => match us, hl with | [_], _ => rfl)⟩
  refine fn_ok (k := 0) F sc_Draft_space rfl fun cdv A outer s H E hr => ?_
  have nd := sc_Draft_space.nd
  have tk := takes_of (X := cxOf (L2.CX P w) P w K mg base ["self"] "Draft.space" (defScope s_Draft_space) (pg K "Draft" "space") cdv A outer s H E) rfl rfl rfl rfl
  have po := passes_of (X := cxOf (L2.CX P w) P w K mg base ["self"] "Draft.space" (defScope s_Draft_space) (pg K "Draft" "space") cdv A outer s H E) rfl
  exact (oss_one (os_ret (oe_it (oe_fld T.c_Draft T.n_Draft_held (oe_var 0)) oe_int)))
theorem sc_Space_text : FnScope ["self"] ["self"] (defScope s_Space_text) := ⟨rfl, rfl, rfl, by decide +kernel, rfl, by decide +kernel, by decide +kernel⟩
theorem g_Space_text (T : Tp K mg) : GP P w K mg base "Space" "text" 1 m_Space_text := by
  obtain ⟨fd, F⟩ := T.d_Space_text
  refine ⟨T.c_Space, _, _, fd, ["self"], T.pr_Space_text, ?_, FunD.bindsN F (fun _ _ _ _ _ _ us hl => match us, hl with | [_], _ => rfl)⟩
  refine fn_ok (k := 0) F sc_Space_text rfl fun cdv A outer s H E hr => ?_
  have nd := sc_Space_text.nd
  have tk := takes_of (X := cxOf (L2.CX P w) P w K mg base ["self"] "Space.text" (defScope s_Space_text) (pg K "Space" "text") cdv A outer s H E) rfl rfl rfl rfl
  have po := passes_of (X := cxOf (L2.CX P w) P w K mg base ["self"] "Space.text" (defScope s_Space_text) (pg K "Space" "text") cdv A outer s H E) rfl
  exact (oss_one (os_ret (oe_fld T.c_Space T.n_Space_told (oe_var 0))))
theorem sc__law_told : FnScope ["_law_state_here", "_law_order", "_law_near_here", "_law_tag", "_law_mate"] ["_law_state_here"] (defScope s__law_told) := ⟨rfl, rfl, rfl, by decide +kernel, rfl, by decide +kernel, by decide +kernel⟩
theorem g__law_told (T : Tp K mg) : GF P w K mg base "_law_told" (defArgs s__law_told) ["_law_state_here"] 1 m__law_told := by
  obtain ⟨fd, F⟩ := T.d__law_told
  refine ⟨T.g__law_told, F.kp, fd, ?_, FunD.bindsN F (fun _ _ _ _ _ _ us hl => match us, hl with | [_], _ => rfl), Mir.FunD.hasPar F, Mir.FunD.at_ F⟩
  refine fn_ok (k := 0) F sc__law_told rfl fun cdv A outer s H E hr => ?_
  have nd := sc__law_told.nd
  have tk := takes_of (X := cxOf (L2.CX P w) P w K mg base ["_law_state_here", "_law_order", "_law_near_here", "_law_tag", "_law_mate"] "_law_told" (defScope s__law_told) (He.ga K "_law_told") cdv A outer s H E) rfl rfl rfl rfl
  have po := passes_of (X := cxOf (L2.CX P w) P w K mg base ["_law_state_here", "_law_order", "_law_near_here", "_law_tag", "_law_mate"] "_law_told" (defScope s__law_told) (He.ga K "_law_told") cdv A outer s H E) rfl
  exact (oss_cons (os_asg (oe_var 0) (og_tup rfl (ogs_cons (og_name nd) (ogs_cons (og_name nd) ogs_nil)))) (oss_one (os_ret (oe_join oe_str (oe_lc rfl nd (oi_of (oe_var 1)) (own := [("_law_tag", 3)]) (blkOk_by rfl) (by decide) (fun _ _ _ _ _ => (og_name nd)) (fun _ _ _ _ _ => ots_nil) (fun _ _ _ _ _ => (oe_add (oe_add (oe_var 3) oe_str) (oe_join oe_str (oe_lc rfl nd (oi_of (oe_var 1)) (own := [("_law_mate", 4)]) (blkOk_by rfl) (by decide) (fun _ _ _ _ _ => (og_name nd)) (fun _ _ _ _ _ => ots_one (ot_in2 hr.r (oe_var 4) (oe_itemK hr.r (oe_var 2) (oe_var 3)))) (fun _ _ _ _ _ => (oe_var 4)))))))))))
theorem sc_Draft_changes : FnScope ["self"] ["self"] (defScope s_Draft_changes) := ⟨rfl, rfl, rfl, by decide +kernel, rfl, by decide +kernel, by decide +kernel⟩
theorem g_Draft_changes (T : Tp K mg) : GP P w K mg base "Draft" "changes" 1 m_Draft_changes := by
  obtain ⟨fd, F⟩ := T.d_Draft_changes
  refine ⟨T.c_Draft, _, _, fd, ["self"], T.pr_Draft_changes, ?_, FunD.bindsN F (fun _ _ _ _ _ _ us hl => match us, hl with | [_], _ => rfl)⟩
  refine fn_ok (k := 0) F sc_Draft_changes rfl fun cdv A outer s H E hr => ?_
  have nd := sc_Draft_changes.nd
  have tk := takes_of (X := cxOf (L2.CX P w) P w K mg base ["self"] "Draft.changes" (defScope s_Draft_changes) (pg K "Draft" "changes") cdv A outer s H E) rfl rfl rfl rfl
  have po := passes_of (X := cxOf (L2.CX P w) P w K mg base ["self"] "Draft.changes" (defScope s_Draft_changes) (pg K "Draft" "changes") cdv A outer s H E) rfl
  exact (oss_one (os_ret (oe_it (oe_fld T.c_Draft T.n_Draft_held (oe_var 0)) oe_int)))
theorem sc_Space_points : FnScope ["self"] ["self"] (defScope s_Space_points) := ⟨rfl, rfl, rfl, by decide +kernel, rfl, by decide +kernel, by decide +kernel⟩
theorem g_Space_points (T : Tp K mg) : GP P w K mg base "Space" "points" 1 m_Space_points := by
  obtain ⟨fd, F⟩ := T.d_Space_points
  refine ⟨T.c_Space, _, _, fd, ["self"], T.pr_Space_points, ?_, FunD.bindsN F (fun _ _ _ _ _ _ us hl => match us, hl with | [_], _ => rfl)⟩
  refine fn_ok (k := 0) F sc_Space_points rfl fun cdv A outer s H E hr => ?_
  have nd := sc_Space_points.nd
  have tk := takes_of (X := cxOf (L2.CX P w) P w K mg base ["self"] "Space.points" (defScope s_Space_points) (pg K "Space" "points") cdv A outer s H E) rfl rfl rfl rfl
  have po := passes_of (X := cxOf (L2.CX P w) P w K mg base ["self"] "Space.points" (defScope s_Space_points) (pg K "Space" "points") cdv A outer s H E) rfl
  exact (oss_one (os_ret (oe_tupleC T.f_tuple (oe_fld T.c_Space T.n_Space_order (oe_var 0)))))
theorem sc_check_point : FnScope ["space", "point"] ["space", "point"] (defScope s_check_point) := ⟨rfl, rfl, rfl, by decide +kernel, rfl, by decide +kernel, by decide +kernel⟩
theorem g_check_point (T : Tp K mg) : GF P w K mg base "check_point" (defArgs s_check_point) ["space", "point"] 2 m_check_point := by
  obtain ⟨fd, F⟩ := T.d_check_point
  refine ⟨T.g_check_point, F.kp, fd, ?_, FunD.bindsN F (fun _ _ _ _ _ _ us hl => match us, hl with | [_, _], _ => rfl), Mir.FunD.hasPar F, Mir.FunD.at_ F⟩
  refine fn_ok (k := 1) F sc_check_point rfl fun cdv A outer s H E hr => ?_
  have nd := sc_check_point.nd
  have tk := takes_of (X := cxOf (L2.CX P w) P w K mg base ["space", "point"] "check_point" (defScope s_check_point) (He.ga K "check_point") cdv A outer s H E) rfl rfl rfl rfl
  have po := passes_of (X := cxOf (L2.CX P w) P w K mg base ["space", "point"] "check_point" (defScope s_check_point) (He.ga K "check_point") cdv A outer s H E) rfl
  exact (oss_one (os_if (ot_w (ow_or (ot_not (ot_val (oe_fn (g_is_name T) hr (by decide) tk (oa_cons (oe_var 1) oa_nil)))) (ow_or1 (ot_notIn2 hr.r (oe_var 1) (oe_fld T.c_Space T.n_Space_order (oe_var 0)))))) (oss_one os_never) oss_nil))
theorem sc_names_of : FnScope ["space", "bits", "at"] ["space", "bits"] (defScope s_names_of) := ⟨rfl, rfl, rfl, by decide +kernel, rfl, by decide +kernel, by decide +kernel⟩
theorem g_names_of (T : Tp K mg) : GF P w K mg base "names_of" (defArgs s_names_of) ["space", "bits"] 2 m_names_of := by
  obtain ⟨fd, F⟩ := T.d_names_of
  refine ⟨T.g_names_of, F.kp, fd, ?_, FunD.bindsN F (fun _ _ _ _ _ _ us hl => match us, hl with | [_, _], _ => rfl), Mir.FunD.hasPar F, Mir.FunD.at_ F⟩
  refine fn_ok (k := 1) F sc_names_of rfl fun cdv A outer s H E hr => ?_
  have nd := sc_names_of.nd
  have tk := takes_of (X := cxOf (L2.CX P w) P w K mg base ["space", "bits", "at"] "names_of" (defScope s_names_of) (He.ga K "names_of") cdv A outer s H E) rfl rfl rfl rfl
  have po := passes_of (X := cxOf (L2.CX P w) P w K mg base ["space", "bits", "at"] "names_of" (defScope s_names_of) (He.ga K "names_of") cdv A outer s H E) rfl
  exact (oss_one (os_ret (oe_tupleC T.f_tuple (oe_lc rfl nd (oi_of (oe_fn (g_indexes_of T) hr (by decide) tk (oa_cons (oe_var 1) oa_nil))) (own := [("at", 2)]) (blkOk_by rfl) (by decide) (fun _ _ _ _ _ => (og_name nd)) (fun _ _ _ _ _ => ots_nil) (fun _ _ _ _ _ => (oe_it (oe_fld T.c_Space T.n_Space_order (oe_var 0)) (oe_var 2)))))))
theorem sc_Space_near : FnScope ["self", "point"] ["self", "point"] (defScope s_Space_near) := ⟨rfl, rfl, rfl, by decide +kernel, rfl, by decide +kernel, by decide +kernel⟩
theorem g_Space_near (T : Tp K mg) : GM P w K mg base "Space" "near" (defArgs s_Space_near) ["self", "point"] 3 m_Space_near := by
  obtain ⟨fd, F⟩ := T.d_Space_near
  refine ⟨T.c_Space, T.me_Space_near, fd, ?_, FunD.bindsN F (fun _ _ _ _ _ _ us hl => match us, hl with | [_, _], _ => rfl), Mir.FunD.hasPar F⟩
  refine fn_ok (k := 2) F sc_Space_near rfl fun cdv A outer s H E hr => ?_
  have nd := sc_Space_near.nd
  have tk := takes_of (X := cxOf (L2.CX P w) P w K mg base ["self", "point"] "Space.near" (defScope s_Space_near) (He.ma K (He.ga K "Space") "near") cdv A outer s H E) rfl rfl rfl rfl
  have po := passes_of (X := cxOf (L2.CX P w) P w K mg base ["self", "point"] "Space.near" (defScope s_Space_near) (He.ma K (He.ga K "Space") "near") cdv A outer s H E) rfl
  exact (oss_cons (os_expr (oe_fn (g_check_point T) hr (by decide) tk (oa_cons (oe_var 0) (oa_cons (oe_var 1) oa_nil)))) (oss_one (os_ret (oe_fn (g_names_of T) hr (by decide) tk (oa_cons (oe_var 0) (oa_cons (oe_it (oe_fld T.c_Space T.n_Space_seen (oe_var 0)) (oe_index (oe_fld T.c_Space T.n_Space_order (oe_var 0)) (oe_var 1))) oa_nil))))))
theorem sc__law_draft_tells : FnScope ["_law_draft", "_law_past", "_law_order", "_law_near_here", "_law_tag", "_law_mate"] ["_law_draft", "_law_past"] (defScope s__law_draft_tells) := ⟨rfl, rfl, rfl, by decide +kernel, rfl, by decide +kernel, by decide +kernel⟩
theorem g__law_draft_tells (T : Tp K mg) : GF P w K mg base "_law_draft_tells" (defArgs s__law_draft_tells) ["_law_draft", "_law_past"] 4 m__law_draft_tells := by
  obtain ⟨fd, F⟩ := T.d__law_draft_tells
  refine ⟨T.g__law_draft_tells, F.kp, fd, ?_, FunD.bindsN F (fun _ _ _ _ _ _ us hl => match us, hl with | [_, _], _ => rfl), Mir.FunD.hasPar F, Mir.FunD.at_ F⟩
  refine fn_ok (k := 3) F sc__law_draft_tells rfl fun cdv A outer s H E hr => ?_
  have nd := sc__law_draft_tells.nd
  have tk := takes_of (X := cxOf (L2.CX P w) P w K mg base ["_law_draft", "_law_past", "_law_order", "_law_near_here", "_law_tag", "_law_mate"] "_law_draft_tells" (defScope s__law_draft_tells) (He.ga K "_law_draft_tells") cdv A outer s H E) rfl rfl rfl rfl
  have po := passes_of (X := cxOf (L2.CX P w) P w K mg base ["_law_draft", "_law_past", "_law_order", "_law_near_here", "_law_tag", "_law_mate"] "_law_draft_tells" (defScope s__law_draft_tells) (He.ga K "_law_draft_tells") cdv A outer s H E) rfl
  exact (oss_cons (os_asg (oe_it (oe_var 1) (oe_neg oe_int)) (og_tup rfl (ogs_cons (og_name nd) (ogs_cons (og_name nd) ogs_nil)))) (oss_cons (os_if (ot_w (ow_or (ot_ne hr.r (oe_prop (g_Space_text T) hr (by decide) (oe_prop (g_Draft_space T) hr (by decide) (oe_var 0))) (oe_fn (g__law_told T) hr (by decide) tk (oa_cons (oe_it (oe_var 1) (oe_neg oe_int)) oa_nil))) (ow_or1 (ot_ne hr.r (oe_prop (g_Draft_changes T) hr (by decide) (oe_var 0)) (oe_sub (oe_len T.f_len (oe_var 1)) oe_int))))) (oss_one (os_ret oe_bl)) oss_nil) (oss_cons (os_if (ot_ne hr.r (oe_prop (g_Space_points T) hr (by decide) (oe_prop (g_Draft_space T) hr (by decide) (oe_var 0))) (oe_tupleC T.f_tuple (oe_var 2))) (oss_one (os_ret oe_bl)) oss_nil) (oss_one (os_ret (oe_all rfl T.f_all (oe_lc rfl nd (oi_of (oe_var 2)) (own := [("_law_tag", 4)]) (blkOk_by rfl) (by decide) (fun _ _ _ _ _ => (og_name nd)) (fun _ _ _ _ _ => ots_nil) (fun _ _ _ _ _ => (oe_eq hr.r (oe_meth (g_Space_near T) hr (by decide) Mir.takes0 (oe_prop (g_Draft_space T) hr (by decide) (oe_var 0)) (oa_cons (oe_var 4) oa_nil)) (oe_tupleC T.f_tuple (oe_lc rfl nd (oi_of (oe_var 2)) (own := [("_law_mate", 5)]) (blkOk_by rfl) (by decide) (fun _ _ _ _ _ => (og_name nd)) (fun _ _ _ _ _ => ots_one (ot_in2 hr.r (oe_var 5) (oe_itemK hr.r (oe_var 3) (oe_var 4)))) (fun _ _ _ _ _ => (oe_var 5)))))))))))))
theorem sc__law_deed : FnScope ["_law_mug_here", "_law_state_here", "_law_fresh", "_law_order", "_law_way_now", "_law_tag"] ["_law_mug_here", "_law_state_here"] (defScope s__law_deed) := ⟨rfl, rfl, rfl, by decide +kernel, rfl, by decide +kernel, by decide +kernel⟩
theorem g__law_deed (T : Tp K mg) : GF P w K mg base "_law_deed" (defArgs s__law_deed) ["_law_mug_here", "_law_state_here"] 3 m__law_deed := by
  obtain ⟨fd, F⟩ := T.d__law_deed
  refine ⟨T.g__law_deed, F.kp, fd, ?_, FunD.bindsN F (fun _ _ _ _ _ _ us hl => match us, hl with | [_, _], _ => rfl), Mir.FunD.hasPar F, Mir.FunD.at_ F⟩
  refine fn_ok (k := 2) F sc__law_deed rfl fun cdv A outer s H E hr => ?_
  have nd := sc__law_deed.nd
  have tk := takes_of (X := cxOf (L2.CX P w) P w K mg base ["_law_mug_here", "_law_state_here", "_law_fresh", "_law_order", "_law_way_now", "_law_tag"] "_law_deed" (defScope s__law_deed) (He.ga K "_law_deed") cdv A outer s H E) rfl rfl rfl rfl
  have po := passes_of (X := cxOf (L2.CX P w) P w K mg base ["_law_mug_here", "_law_state_here", "_law_fresh", "_law_order", "_law_way_now", "_law_tag"] "_law_deed" (defScope s__law_deed) (He.ga K "_law_deed") cdv A outer s H E) rfl
  exact (oss_cons (os_parG rfl (oa_cons (oe_it (oe_var 1) oe_int) (oa_cons (oe_fn (g__law_gulp T) hr (by decide) tk (oa_cons (oe_var 0) (oa_cons oe_int oa_nil))) oa_nil)) (ogs_cons (og_name nd) (ogs_cons (og_name nd) ogs_nil))) (oss_cons (os_setLc (i := 2) rfl nd (oi_of (oe_lst (oa_cons oe_str (oa_cons oe_str (oa_cons oe_str (oa_cons oe_str (oa_cons oe_str (oa_cons oe_str (oa_cons oe_str oa_nil))))))))) (own := [("_law_tag", 5)]) (blkOk_by rfl) (by decide) (fun _ _ _ _ _ => (og_name nd)) (fun _ _ _ _ _ => ots_one (ot_notIn2 hr.r (oe_var 5) (oe_var 3))) (fun _ _ _ _ _ => (oe_var 5))) (oss_cons (os_if (ot_w (ow_and (ot_lt (oe_var 4) oe_int) (ow_and (ot_ne hr.r (oe_var 2) (oe_lst oa_nil)) (ow_and1 (ot_lt (oe_len T.f_len (oe_var 3)) oe_int))))) (oss_one (os_ret (oe_tup (oa_cons oe_str (oa_cons (oe_fn (g__law_one T) hr (by decide) tk (oa_cons (oe_var 0) (oa_cons (oe_var 2) oa_nil))) (oa_cons oe_str oa_nil)))))) oss_nil) (oss_cons (os_if (ot_w (ow_and (ot_eq hr.r (oe_var 4) oe_int) (ow_and1 (ot_gt (oe_len T.f_len (oe_var 3)) oe_int)))) (oss_one (os_ret (oe_tup (oa_cons oe_str (oa_cons (oe_fn (g__law_one T) hr (by decide) tk (oa_cons (oe_var 0) (oa_cons (oe_var 3) oa_nil))) (oa_cons oe_str oa_nil)))))) oss_nil) (oss_cons (os_if (ot_eq hr.r (oe_var 4) oe_int) (oss_one (os_ret (oe_tup (oa_cons oe_str (oa_cons (oe_fn (g__law_one T) hr (by decide) tk (oa_cons (oe_var 0) (oa_cons (oe_var 3) oa_nil))) (oa_cons oe_str oa_nil)))))) oss_nil) (oss_one (os_ret (oe_tup (oa_cons oe_str (oa_cons (oe_fn (g__law_one T) hr (by decide) tk (oa_cons (oe_var 0) (oa_cons (oe_var 3) oa_nil))) (oa_cons (oe_fn (g__law_one T) hr (by decide) tk (oa_cons (oe_var 0) (oa_cons (oe_var 3) oa_nil))) oa_nil)))))))))))
theorem sc__law_after : FnScope ["_law_state_here", "_law_deed_here", "_law_order", "_law_near_here", "_law_word", "_law_tag", "_law_mate", "_law_more", "_law_each", "_law_spot"] ["_law_state_here", "_law_deed_here"] (defScope s__law_after) := ⟨rfl, rfl, rfl, by decide +kernel, rfl, by decide +kernel, by decide +kernel⟩
theorem g__law_after (T : Tp K mg) : GF P w K mg base "_law_after" (defArgs s__law_after) ["_law_state_here", "_law_deed_here"] 1 m__law_after := by
  obtain ⟨fd, F⟩ := T.d__law_after
  refine ⟨T.g__law_after, F.kp, fd, ?_, FunD.bindsN F (fun _ _ _ _ _ _ us hl => match us, hl with | [_, _], _ => rfl), Mir.FunD.hasPar F, Mir.FunD.at_ F⟩
  refine fn_ok (k := 0) F sc__law_after rfl fun cdv A outer s H E hr => ?_
  have nd := sc__law_after.nd
  have tk := takes_of (X := cxOf (L2.CX P w) P w K mg base ["_law_state_here", "_law_deed_here", "_law_order", "_law_near_here", "_law_word", "_law_tag", "_law_mate", "_law_more", "_law_each", "_law_spot"] "_law_after" (defScope s__law_after) (He.ga K "_law_after") cdv A outer s H E) rfl rfl rfl rfl
  have po := passes_of (X := cxOf (L2.CX P w) P w K mg base ["_law_state_here", "_law_deed_here", "_law_order", "_law_near_here", "_law_word", "_law_tag", "_law_mate", "_law_more", "_law_each", "_law_spot"] "_law_after" (defScope s__law_after) (He.ga K "_law_after") cdv A outer s H E) rfl
  exact (oss_cons (os_parG rfl (oa_cons (oe_cpyC T.f_list (oe_it (oe_var 0) oe_int)) (oa_cons (oe_dictPC rfl T.f_dict (oe_lc rfl nd (oi_of (oe_it (oe_var 0) oe_int)) (own := [("_law_tag", 5)]) (blkOk_by rfl) (by decide) (fun _ _ _ _ _ => (og_name nd)) (fun _ _ _ _ _ => ots_nil) (fun _ _ _ _ _ => (oe_tup (oa_cons (oe_var 5) (oa_cons (oe_listC T.f_list (oe_itemK hr.r (oe_it (oe_var 0) oe_int) (oe_var 5))) oa_nil)))))) oa_nil)) (ogs_cons (og_name nd) (ogs_cons (og_name nd) ogs_nil))) (oss_cons (os_asg (oe_var 1) (og_tup rfl (ogs_cons (og_name nd) (ogs_cons (og_name nd) (ogs_cons (og_name nd) ogs_nil))))) (oss_cons (os_if (ot_eq hr.r (oe_var 4) oe_str) (oss_cons (os_expr (oe_append (oe_var 2) (oe_var 5))) (oss_one (os_putK hr.r (oe_var 3) (oe_var 5) (oe_lst (oa_cons (oe_var 5) oa_nil))))) oss_nil) (oss_cons (os_if (ot_eq hr.r (oe_var 4) oe_str) (oss_cons (os_setLcC (i := 2) rfl nd (oi_of (oe_var 2)) (own := [("_law_each", 8)]) (blkOk_by rfl) (by decide) (fun _ _ _ _ _ => (og_name nd)) (fun _ _ _ _ _ => ots_one (ot_ne hr.r (oe_var 8) (oe_var 5))) (fun _ _ _ _ _ => (oe_var 8))) (oss_one (os_set (i := 3) nd (oe_dictPC rfl T.f_dict (oe_lc rfl nd (oi_of (oe_var 2)) (own := [("_law_each", 8)]) (blkOk_by rfl) (by decide) (fun _ _ _ _ _ => (og_name nd)) (fun _ _ _ _ _ => ots_nil) (fun _ _ _ _ _ => (oe_tup (oa_cons (oe_var 8) (oa_cons (oe_lc rfl nd (oi_of (oe_itemK hr.r (oe_var 3) (oe_var 8))) (own := [("_law_spot", 9)]) (blkOk_by rfl) (by decide) (fun _ _ _ _ _ => (og_name nd)) (fun _ _ _ _ _ => ots_one (ot_ne hr.r (oe_var 9) (oe_var 5))) (fun _ _ _ _ _ => (oe_var 9))) oa_nil))))))))) oss_nil) (oss_cons (os_if (ot_eq hr.r (oe_var 4) oe_str) (oss_cons (os_set (i := 7) nd (oe_listC T.f_list (oe_itemK hr.r (oe_var 3) (oe_var 6)))) (oss_one (os_for po rfl (oi_of (oe_var 2)) (og_name nd) (oss_one (os_if (ot_in2 hr.r (oe_var 5) (oe_itemK hr.r (oe_var 3) (oe_var 8))) (oss_one (os_putK hr.r (oe_var 3) (oe_var 8) (oe_add (oe_itemK hr.r (oe_var 3) (oe_var 8)) (oe_lc rfl nd (oi_of (oe_var 7)) (own := [("_law_spot", 9)]) (blkOk_by rfl) (by decide) (fun _ _ _ _ _ => (og_name nd)) (fun _ _ _ _ _ => ots_one (ot_notIn2 hr.r (oe_var 9) (oe_itemK hr.r (oe_var 3) (oe_var 8)))) (fun _ _ _ _ _ => (oe_var 9)))))) oss_nil))))) oss_nil) (oss_cons (os_if (ot_eq hr.r (oe_var 4) oe_str) (oss_one (os_putK hr.r (oe_var 3) (oe_var 5) (oe_lst (oa_cons (oe_var 5) oa_nil)))) oss_nil) (oss_one (os_ret (oe_tup (oa_cons (oe_var 2) (oa_cons (oe_var 3) oa_nil)))))))))))
theorem sc_text_of : FnScope ["order", "near", "rows", "name", "bits", "inner", "at"] ["order", "near"] (defScope s_text_of) := ⟨rfl, rfl, rfl, by decide +kernel, rfl, by decide +kernel, by decide +kernel⟩
theorem g_text_of (T : Tp K mg) : GF P w K mg base "text_of" (defArgs s_text_of) ["order", "near"] 2 m_text_of := by
  obtain ⟨fd, F⟩ := T.d_text_of
  refine ⟨T.g_text_of, F.kp, fd, ?_, FunD.bindsN F (fun _ _ _ _ _ _ us hl => match us, hl with | [_, _], _ => rfl), Mir.FunD.hasPar F, Mir.FunD.at_ F⟩
  refine fn_ok (k := 1) F sc_text_of rfl fun cdv A outer s H E hr => ?_
  have nd := sc_text_of.nd
  have tk := takes_of (X := cxOf (L2.CX P w) P w K mg base ["order", "near", "rows", "name", "bits", "inner", "at"] "text_of" (defScope s_text_of) (He.ga K "text_of") cdv A outer s H E) rfl rfl rfl rfl
  have po := passes_of (X := cxOf (L2.CX P w) P w K mg base ["order", "near", "rows", "name", "bits", "inner", "at"] "text_of" (defScope s_text_of) (He.ga K "text_of") cdv A outer s H E) rfl
  exact (oss_cons (os_set (i := 2) nd (oe_lstC oa_nil)) (oss_cons (os_for po rfl (oi_zip T.f_zip (oe_var 0) (oe_var 1)) (og_tup rfl (ogs_cons (og_name nd) (ogs_cons (og_name nd) ogs_nil))) (oss_cons (os_set (i := 5) nd (oe_join oe_str (oe_lc rfl nd (oi_of (oe_fn (g_indexes_of T) hr (by decide) tk (oa_cons (oe_var 4) oa_nil))) (own := [("at", 6)]) (blkOk_by rfl) (by decide) (fun _ _ _ _ _ => (og_name nd)) (fun _ _ _ _ _ => ots_nil) (fun _ _ _ _ _ => (oe_it (oe_var 0) (oe_var 6)))))) (oss_one (os_expr (oe_append (oe_var 2) (oe_fstr (oj_fmt (oe_var 3) (oj_txt (oj_fmt (oe_var 5) oj_nil))))))))) (oss_one (os_ret (oe_join oe_str (oe_var 2))))))
theorem sc_Draft_become : FnScope ["self", "order", "near"] ["self", "order", "near"] (defScope s_Draft_become) := ⟨rfl, rfl, rfl, by decide +kernel, rfl, by decide +kernel, by decide +kernel⟩
theorem g_Draft_become (T : Tp K mg) : GM P w K mg base "Draft" "become" (defArgs s_Draft_become) ["self", "order", "near"] 6 m_Draft_become := by
  obtain ⟨fd, F⟩ := T.d_Draft_become
  refine ⟨T.c_Draft, T.me_Draft_become, fd, ?_, FunD.bindsN F (fun _ _ _ _ _ _ us hl => match us, hl with | [_, _, _], _ => rfl), Mir.FunD.hasPar F⟩
  refine fn_ok (k := 5) F sc_Draft_become rfl fun cdv A outer s H E hr => ?_
  have nd := sc_Draft_become.nd
  have tk := takes_of (X := cxOf (L2.CX P w) P w K mg base ["self", "order", "near"] "Draft.become" (defScope s_Draft_become) (He.ma K (He.ga K "Draft") "become") cdv A outer s H E) rfl rfl rfl rfl
  have po := passes_of (X := cxOf (L2.CX P w) P w K mg base ["self", "order", "near"] "Draft.become" (defScope s_Draft_become) (He.ma K (He.ga K "Draft") "become") cdv A outer s H E) rfl
  exact (oss_one (os_asg (oe_tup (oa_cons (oe_make false (g_Space___init__ T) hr (by decide) tk (oa_cons (oe_fn (g_text_of T) hr (by decide) tk (oa_cons (oe_var 1) (oa_cons (oe_var 2) oa_nil))) oa_nil)) (oa_cons (oe_fld T.c_Draft T.n_Draft_held (oe_var 0)) (oa_cons (oe_add (oe_it (oe_fld T.c_Draft T.n_Draft_held (oe_var 0)) oe_int) oe_int) oa_nil)))) (og_fld T.c_Draft T.n_Draft_held (oe_var 0))))
theorem sc_Draft_add : FnScope ["self", "name", "order", "near"] ["self", "name"] (defScope s_Draft_add) := ⟨rfl, rfl, rfl, by decide +kernel, rfl, by decide +kernel, by decide +kernel⟩
theorem g_Draft_add (T : Tp K mg) : GM P w K mg base "Draft" "add" (defArgs s_Draft_add) ["self", "name"] 7 m_Draft_add := by
  obtain ⟨fd, F⟩ := T.d_Draft_add
  refine ⟨T.c_Draft, T.me_Draft_add, fd, ?_, FunD.bindsN F (fun _ _ _ _ _ _ us hl => match us, hl with | [_, _], _ => rfl), Mir.FunD.hasPar F⟩
  refine fn_ok (k := 6) F sc_Draft_add rfl fun cdv A outer s H E hr => ?_
  have nd := sc_Draft_add.nd
  have tk := takes_of (X := cxOf (L2.CX P w) P w K mg base ["self", "name", "order", "near"] "Draft.add" (defScope s_Draft_add) (He.ma K (He.ga K "Draft") "add") cdv A outer s H E) rfl rfl rfl rfl
  have po := passes_of (X := cxOf (L2.CX P w) P w K mg base ["self", "name", "order", "near"] "Draft.add" (defScope s_Draft_add) (He.ma K (He.ga K "Draft") "add") cdv A outer s H E) rfl
  exact (oss_cons (os_if (ot_not (ot_val (oe_fn (g_is_name T) hr (by decide) tk (oa_cons (oe_var 1) oa_nil)))) (oss_one os_never) oss_nil) (oss_cons (os_par (i := 2) (j := 3) rfl nd (oa_cons (oe_fld T.c_Space T.n_Space_order (oe_prop (g_Draft_space T) hr (by decide) (oe_var 0))) (oa_cons (oe_fld T.c_Space T.n_Space_seen (oe_prop (g_Draft_space T) hr (by decide) (oe_var 0))) oa_nil))) (oss_cons (os_if (ot_in2 hr.r (oe_var 1) (oe_var 2)) (oss_one os_never) oss_nil) (oss_cons (os_if (ot_eq hr.r (oe_len T.f_len (oe_var 2)) (oe_gV T.v_MOST_POINTS)) (oss_one os_never) oss_nil) (oss_one (os_expr (oe_meth (g_Draft_become T) hr (by decide) tk (oe_var 0) (oa_cons (oe_lst (oa_star (oe_var 2) (oa_cons (oe_var 1) oa_nil))) (oa_cons (oe_lst (oa_star (oe_var 3) (oa_cons (oe_shl oe_int (oe_len T.f_len (oe_var 2))) oa_nil))) oa_nil)))))))))
theorem sc_Draft_remove : FnScope ["self", "point", "at", "low", "kept", "order", "near", "bits"] ["self", "point"] (defScope s_Draft_remove) := ⟨rfl, rfl, rfl, by decide +kernel, rfl, by decide +kernel, by decide +kernel⟩
theorem g_Draft_remove (T : Tp K mg) : GM P w K mg base "Draft" "remove" (defArgs s_Draft_remove) ["self", "point"] 7 m_Draft_remove := by
  obtain ⟨fd, F⟩ := T.d_Draft_remove
  refine ⟨T.c_Draft, T.me_Draft_remove, fd, ?_, FunD.bindsN F (fun _ _ _ _ _ _ us hl => match us, hl with | [_, _], _ => rfl), Mir.FunD.hasPar F⟩
  refine fn_ok (k := 6) F sc_Draft_remove rfl fun cdv A outer s H E hr => ?_
  have nd := sc_Draft_remove.nd
  have tk := takes_of (X := cxOf (L2.CX P w) P w K mg base ["self", "point", "at", "low", "kept", "order", "near", "bits"] "Draft.remove" (defScope s_Draft_remove) (He.ma K (He.ga K "Draft") "remove") cdv A outer s H E) rfl rfl rfl rfl
  have po := passes_of (X := cxOf (L2.CX P w) P w K mg base ["self", "point", "at", "low", "kept", "order", "near", "bits"] "Draft.remove" (defScope s_Draft_remove) (He.ma K (He.ga K "Draft") "remove") cdv A outer s H E) rfl
  exact (oss_cons (os_expr (oe_fn (g_check_point T) hr (by decide) tk (oa_cons (oe_prop (g_Draft_space T) hr (by decide) (oe_var 0)) (oa_cons (oe_var 1) oa_nil)))) (oss_cons (os_par (i := 5) (j := 6) rfl nd (oa_cons (oe_fld T.c_Space T.n_Space_order (oe_prop (g_Draft_space T) hr (by decide) (oe_var 0))) (oa_cons (oe_fld T.c_Space T.n_Space_seen (oe_prop (g_Draft_space T) hr (by decide) (oe_var 0))) oa_nil))) (oss_cons (os_if (ot_eq hr.r (oe_len T.f_len (oe_var 5)) oe_int) (oss_one os_never) oss_nil) (oss_cons (os_set (i := 2) nd (oe_index (oe_var 5) (oe_var 1))) (oss_cons (os_set (i := 3) nd (oe_sub (oe_shl oe_int (oe_var 2)) oe_int)) (oss_cons (os_setLc (i := 4) rfl nd (oi_of (oe_var 6)) (own := [("bits", 7)]) (blkOk_by rfl) (by decide) (fun _ _ _ _ _ => (og_name nd)) (fun _ _ _ _ _ => ots_nil) (fun _ _ _ _ _ => (oe_bor (oe_band (oe_var 7) (oe_var 3)) (oe_shl (oe_shr (oe_var 7) (oe_add (oe_var 2) oe_int)) (oe_var 2))))) (oss_one (os_expr (oe_meth (g_Draft_become T) hr (by decide) tk (oe_var 0) (oa_cons (oe_add (oe_slice (oe_var 5) oo_none (oo_some (oe_var 2))) (oe_slice (oe_var 5) (oo_some (oe_add (oe_var 2) oe_int)) oo_none)) (oa_cons (oe_add (oe_slice (oe_var 4) oo_none (oo_some (oe_var 2))) (oe_slice (oe_var 4) (oo_some (oe_add (oe_var 2) oe_int)) oo_none)) oa_nil)))))))))))
theorem sc_Draft_cut : FnScope ["self", "point", "order", "at", "k", "bits"] ["self", "point"] (defScope s_Draft_cut) := ⟨rfl, rfl, rfl, by decide +kernel, rfl, by decide +kernel, by decide +kernel⟩
theorem g_Draft_cut (T : Tp K mg) : GM P w K mg base "Draft" "cut" (defArgs s_Draft_cut) ["self", "point"] 7 m_Draft_cut := by
  obtain ⟨fd, F⟩ := T.d_Draft_cut
  refine ⟨T.c_Draft, T.me_Draft_cut, fd, ?_, FunD.bindsN F (fun _ _ _ _ _ _ us hl => match us, hl with | [_, _], _ => rfl), Mir.FunD.hasPar F⟩
  refine fn_ok (k := 6) F sc_Draft_cut rfl fun cdv A outer s H E hr => ?_
  have nd := sc_Draft_cut.nd
  have tk := takes_of (X := cxOf (L2.CX P w) P w K mg base ["self", "point", "order", "at", "k", "bits"] "Draft.cut" (defScope s_Draft_cut) (He.ma K (He.ga K "Draft") "cut") cdv A outer s H E) rfl rfl rfl rfl
  have po := passes_of (X := cxOf (L2.CX P w) P w K mg base ["self", "point", "order", "at", "k", "bits"] "Draft.cut" (defScope s_Draft_cut) (He.ma K (He.ga K "Draft") "cut") cdv A outer s H E) rfl
  exact (oss_cons (os_expr (oe_fn (g_check_point T) hr (by decide) tk (oa_cons (oe_prop (g_Draft_space T) hr (by decide) (oe_var 0)) (oa_cons (oe_var 1) oa_nil)))) (oss_cons (os_set (i := 2) nd (oe_fld T.c_Space T.n_Space_order (oe_prop (g_Draft_space T) hr (by decide) (oe_var 0)))) (oss_cons (os_set (i := 3) nd (oe_index (oe_var 2) (oe_var 1))) (oss_one (os_expr (oe_meth (g_Draft_become T) hr (by decide) tk (oe_var 0) (oa_cons (oe_var 2) (oa_cons (oe_lc rfl nd (oi_enum T.f_enumerate (oe_fld T.c_Space T.n_Space_seen (oe_prop (g_Draft_space T) hr (by decide) (oe_var 0)))) (own := [("k", 4), ("bits", 5)]) (blkOk_by rfl) (by decide) (fun _ _ _ _ _ => (og_tup rfl (ogs_cons (og_name nd) (ogs_cons (og_name nd) ogs_nil)))) (fun _ _ _ _ _ => ots_nil) (fun _ _ _ _ _ => (oe_if (ot_eq hr.r (oe_var 4) (oe_var 3)) (oe_shl oe_int (oe_var 3)) (oe_var 5)))) oa_nil))))))))
theorem sc_Draft_link : FnScope ["self", "point", "target", "order", "near", "at", "more", "bits"] ["self", "point", "target"] (defScope s_Draft_link) := ⟨rfl, rfl, rfl, by decide +kernel, rfl, by decide +kernel, by decide +kernel⟩
theorem g_Draft_link (T : Tp K mg) : GM P w K mg base "Draft" "link" (defArgs s_Draft_link) ["self", "point", "target"] 7 m_Draft_link := by
  obtain ⟨fd, F⟩ := T.d_Draft_link
  refine ⟨T.c_Draft, T.me_Draft_link, fd, ?_, FunD.bindsN F (fun _ _ _ _ _ _ us hl => match us, hl with | [_, _, _], _ => rfl), Mir.FunD.hasPar F⟩
  refine fn_ok (k := 6) F sc_Draft_link rfl fun cdv A outer s H E hr => ?_
  have nd := sc_Draft_link.nd
  have tk := takes_of (X := cxOf (L2.CX P w) P w K mg base ["self", "point", "target", "order", "near", "at", "more", "bits"] "Draft.link" (defScope s_Draft_link) (He.ma K (He.ga K "Draft") "link") cdv A outer s H E) rfl rfl rfl rfl
  have po := passes_of (X := cxOf (L2.CX P w) P w K mg base ["self", "point", "target", "order", "near", "at", "more", "bits"] "Draft.link" (defScope s_Draft_link) (He.ma K (He.ga K "Draft") "link") cdv A outer s H E) rfl
  exact (oss_cons (os_expr (oe_fn (g_check_point T) hr (by decide) tk (oa_cons (oe_prop (g_Draft_space T) hr (by decide) (oe_var 0)) (oa_cons (oe_var 1) oa_nil)))) (oss_cons (os_expr (oe_fn (g_check_point T) hr (by decide) tk (oa_cons (oe_prop (g_Draft_space T) hr (by decide) (oe_var 0)) (oa_cons (oe_var 2) oa_nil)))) (oss_cons (os_par (i := 3) (j := 4) rfl nd (oa_cons (oe_fld T.c_Space T.n_Space_order (oe_prop (g_Draft_space T) hr (by decide) (oe_var 0))) (oa_cons (oe_fld T.c_Space T.n_Space_seen (oe_prop (g_Draft_space T) hr (by decide) (oe_var 0))) oa_nil))) (oss_cons (os_parG rfl (oa_cons (oe_index (oe_var 3) (oe_var 1)) (oa_cons (oe_it (oe_var 4) (oe_index (oe_var 3) (oe_var 2))) oa_nil)) (ogs_cons (og_name nd) (ogs_cons (og_name nd) ogs_nil))) (oss_one (os_expr (oe_meth (g_Draft_become T) hr (by decide) tk (oe_var 0) (oa_cons (oe_var 3) (oa_cons (oe_lc rfl nd (oi_of (oe_var 4)) (own := [("bits", 7)]) (blkOk_by rfl) (by decide) (fun _ _ _ _ _ => (og_name nd)) (fun _ _ _ _ _ => ots_nil) (fun _ _ _ _ _ => (oe_if (ot_eq hr.r (oe_band (oe_shr (oe_var 7) (oe_var 5)) oe_int) oe_int) (oe_bor (oe_var 7) (oe_var 6)) (oe_var 7)))) oa_nil)))))))))
theorem sc__law_did : FnScope ["_law_draft", "_law_deed_here", "_law_is_named", "_law_word", "_law_tag", "_law_mate"] ["_law_draft", "_law_deed_here", "_law_is_named"] (defScope s__law_did) := ⟨rfl, rfl, rfl, by decide +kernel, rfl, by decide +kernel, by decide +kernel⟩
theorem g__law_did (T : Tp K mg) : GF P w K mg base "_law_did" (defArgs s__law_did) ["_law_draft", "_law_deed_here", "_law_is_named"] 8 m__law_did := by
  obtain ⟨fd, F⟩ := T.d__law_did
  refine ⟨T.g__law_did, F.kp, fd, ?_, FunD.bindsN F (fun _ _ _ _ _ _ us hl => match us, hl with | [_, _, _], _ => rfl), Mir.FunD.hasPar F, Mir.FunD.at_ F⟩
  refine fn_ok (k := 7) F sc__law_did rfl fun cdv A outer s H E hr => ?_
  have nd := sc__law_did.nd
  have tk := takes_of (X := cxOf (L2.CX P w) P w K mg base ["_law_draft", "_law_deed_here", "_law_is_named", "_law_word", "_law_tag", "_law_mate"] "_law_did" (defScope s__law_did) (He.ga K "_law_did") cdv A outer s H E) rfl rfl rfl rfl
  have po := passes_of (X := cxOf (L2.CX P w) P w K mg base ["_law_draft", "_law_deed_here", "_law_is_named", "_law_word", "_law_tag", "_law_mate"] "_law_did" (defScope s__law_did) (He.ga K "_law_did") cdv A outer s H E) rfl
  exact (oss_cons (os_asg (oe_var 1) (og_tup rfl (ogs_cons (og_name nd) (ogs_cons (og_name nd) (ogs_cons (og_name nd) ogs_nil))))) (oss_cons (os_if (ot_eq hr.r (oe_var 3) oe_str) (oss_one (os_ret (oe_if (ot_val (oe_var 2)) (oe_methK (ks := ["name"]) (pm := [0, 1]) (g_Draft_add T) hr (by decide) tk (oe_var 0) (ok_cons (oe_var 4) ok_nil) (fun _ _ _ _ _ _ _ _ _ _ us ws hu hw => match us, ws, hu, hw with | [_], [_], _, _ => rfl)) (oe_meth (g_Draft_add T) hr (by decide) tk (oe_var 0) (oa_cons (oe_var 4) oa_nil))))) oss_nil) (oss_cons (os_if (ot_eq hr.r (oe_var 3) oe_str) (oss_one (os_ret (oe_meth (g_Draft_remove T) hr (by decide) tk (oe_var 0) (oa_cons (oe_var 4) oa_nil)))) oss_nil) (oss_cons (os_if (ot_eq hr.r (oe_var 3) oe_str) (oss_one (os_ret (oe_if (ot_val (oe_var 2)) (oe_methK (ks := ["point"]) (pm := [0, 1]) (g_Draft_cut T) hr (by decide) tk (oe_var 0) (ok_cons (oe_var 4) ok_nil) (fun _ _ _ _ _ _ _ _ _ _ us ws hu hw => match us, ws, hu, hw with | [_], [_], _, _ => rfl)) (oe_meth (g_Draft_cut T) hr (by decide) tk (oe_var 0) (oa_cons (oe_var 4) oa_nil))))) oss_nil) (oss_one (os_ret (oe_if (ot_val (oe_var 2)) (oe_methK (ks := ["target", "point"]) (pm := [0, 2, 1]) (g_Draft_link T) hr (by decide) tk (oe_var 0) (ok_cons (oe_var 5) (ok_cons (oe_var 4) ok_nil)) (fun _ _ _ _ _ _ _ _ _ _ us ws hu hw => match us, ws, hu, hw with | [_], [_, _], _, _ => rfl)) (oe_meth (g_Draft_link T) hr (by decide) tk (oe_var 0) (oa_cons (oe_var 4) (oa_cons (oe_var 5) oa_nil))))))))))
theorem sc_Space___eq__ : FnScope ["self", "other"] ["self", "other"] (defScope s_Space___eq__) := ⟨rfl, rfl, rfl, by decide +kernel, rfl, by decide +kernel, by decide +kernel⟩
theorem g_Space___eq__ (T : Tp K mg) : GM P w K mg base "Space" "__eq__" (defArgs s_Space___eq__) ["self", "other"] 1 m_Space___eq__ := by
  obtain ⟨fd, F⟩ := T.d_Space___eq__
  refine ⟨T.c_Space, T.me_Space___eq__, fd, ?_, FunD.bindsN F (fun _ _ _ _ _ _ us hl => match us, hl with | [_, _], _ => rfl), Mir.FunD.hasPar F⟩
  refine fn_ok (k := 0) F sc_Space___eq__ rfl fun cdv A outer s H E hr => ?_
  have nd := sc_Space___eq__.nd
  have tk := takes_of (X := cxOf (L2.CX P w) P w K mg base ["self", "other"] "Space.__eq__" (defScope s_Space___eq__) (He.ma K (He.ga K "Space") "__eq__") cdv A outer s H E) rfl rfl rfl rfl
  have po := passes_of (X := cxOf (L2.CX P w) P w K mg base ["self", "other"] "Space.__eq__" (defScope s_Space___eq__) (He.ma K (He.ga K "Space") "__eq__") cdv A outer s H E) rfl
  exact (oss_one (os_ret (oe_and (oe_isi T.isi T.f_isinstance (oe_var 1) (oe_gC T.g_Space)) (oe_one (oe_eq hr.r (oe_fld T.c_Space T.n_Space_told (oe_var 0)) (oe_fld T.c_Space T.n_Space_told (oe_var 1)))))))
theorem sc_Draft_undo : FnScope ["self"] ["self"] (defScope s_Draft_undo) := ⟨rfl, rfl, rfl, by decide +kernel, rfl, by decide +kernel, by decide +kernel⟩
theorem g_Draft_undo (T : Tp K mg) : GM P w K mg base "Draft" "undo" (defArgs s_Draft_undo) ["self"] 1 m_Draft_undo := by
  obtain ⟨fd, F⟩ := T.d_Draft_undo
  refine ⟨T.c_Draft, T.me_Draft_undo, fd, ?_, FunD.bindsN F (fun _ _ _ _ _ _ us hl => match us, hl with | [_], _ => rfl), Mir.FunD.hasPar F⟩
  refine fn_ok (k := 0) F sc_Draft_undo rfl fun cdv A outer s H E hr => ?_
  have nd := sc_Draft_undo.nd
  have tk := takes_of (X := cxOf (L2.CX P w) P w K mg base ["self"] "Draft.undo" (defScope s_Draft_undo) (He.ma K (He.ga K "Draft") "undo") cdv A outer s H E) rfl rfl rfl rfl
  have po := passes_of (X := cxOf (L2.CX P w) P w K mg base ["self"] "Draft.undo" (defScope s_Draft_undo) (He.ma K (He.ga K "Draft") "undo") cdv A outer s H E) rfl
  exact (oss_cons (os_if (ot_isN (oe_it (oe_fld T.c_Draft T.n_Draft_held (oe_var 0)) oe_int)) (oss_one os_never) oss_nil) (oss_one (os_asg (oe_it (oe_fld T.c_Draft T.n_Draft_held (oe_var 0)) oe_int) (og_fld T.c_Draft T.n_Draft_held (oe_var 0)))))
theorem sc__law_right : FnScope ["_law_mug_here", "_law_near_here", "_law_begun", "_law_whole", "_law_turn", "_law_size", "_law_tags_here", "_law_draft", "_law_beside", "_law_past", "_law_deed_here"] ["_law_mug_here"] (defScope s__law_right) := ⟨rfl, rfl, rfl, by decide +kernel, rfl, by decide +kernel, by decide +kernel⟩
theorem g__law_right (T : Tp K mg) : GF P w K mg base "_law_right" (defArgs s__law_right) ["_law_mug_here"] 9 m__law_right := by
  obtain ⟨fd, F⟩ := T.d__law_right
  refine ⟨T.g__law_right, F.kp, fd, ?_, FunD.bindsN F (fun _ _ _ _ _ _ us hl => match us, hl with | [_], _ => rfl), Mir.FunD.hasPar F, Mir.FunD.at_ F⟩
  refine fn_ok (k := 8) F sc__law_right rfl fun cdv A outer s H E hr => ?_
  have nd := sc__law_right.nd
  have tk := takes_of (X := cxOf (L2.CX P w) P w K mg base ["_law_mug_here", "_law_near_here", "_law_begun", "_law_whole", "_law_turn", "_law_size", "_law_tags_here", "_law_draft", "_law_beside", "_law_past", "_law_deed_here"] "_law_right" (defScope s__law_right) (He.ga K "_law_right") cdv A outer s H E) rfl rfl rfl rfl
  have po := passes_of (X := cxOf (L2.CX P w) P w K mg base ["_law_mug_here", "_law_near_here", "_law_begun", "_law_whole", "_law_turn", "_law_size", "_law_tags_here", "_law_draft", "_law_beside", "_law_past", "_law_deed_here"] "_law_right" (defScope s__law_right) (He.ga K "_law_right") cdv A outer s H E) rfl
  exact (oss_cons (os_par (i := 5) (j := 6) rfl nd (oa_cons (oe_add oe_int (oe_fn (g__law_gulp T) hr (by decide) tk (oa_cons (oe_var 0) (oa_cons oe_int oa_nil)))) (oa_cons (oe_fn (g__law_tags T) hr (by decide) tk (oa_cons (oe_var 0) (oa_cons oe_int oa_nil))) oa_nil))) (oss_cons (os_set (i := 1) nd (oe_fn (g__law_near T) hr (by decide) tk (oa_cons (oe_var 0) (oa_cons (oe_var 5) oa_nil)))) (oss_cons (os_set (i := 2) nd (oe_make false (g_Space___init__ T) hr (by decide) tk (oa_cons (oe_fn (g__law_space_text T) hr (by decide) tk (oa_cons (oe_var 6) (oa_cons (oe_var 1) oa_nil))) oa_nil))) (oss_cons (os_par3 (i := 7) (j := 8) (l := 9) rfl nd (oa_cons (oe_make true (g_Draft___init__ T) hr (by decide) tk (oa_cons (oe_var 2) oa_nil)) (oa_cons (oe_make true (g_Draft___init__ T) hr (by decide) tk (oa_cons (oe_var 2) oa_nil)) (oa_cons (oe_lstC (oa_cons (oe_fn (g__law_state T) hr (by decide) tk (oa_cons (oe_var 6) (oa_cons (oe_var 1) oa_nil))) oa_nil)) oa_nil)))) (oss_cons (os_set (i := 3) nd (oe_listC T.f_list (oe_var 9))) (oss_cons (os_if (ot_not (ot_val (oe_fn (g__law_draft_tells T) hr (by decide) tk (oa_cons (oe_var 7) (oa_cons (oe_var 9) oa_nil))))) (oss_one (os_ret oe_bl)) oss_nil) (oss_cons (os_for po rfl (oi_range1 T.f_range oe_int) (og_name nd) (oss_cons (os_set (i := 10) nd (oe_fn (g__law_deed T) hr (by decide) tk (oa_cons (oe_var 0) (oa_cons (oe_it (oe_var 9) (oe_neg oe_int)) oa_nil)))) (oss_cons (os_expr (oe_append (oe_var 9) (oe_fn (g__law_after T) hr (by decide) tk (oa_cons (oe_it (oe_var 9) (oe_neg oe_int)) (oa_cons (oe_var 10) oa_nil))))) (oss_cons (os_if (ot_w (ow_or (ot_notN (oe_fn (g__law_did T) hr (by decide) tk (oa_cons (oe_var 7) (oa_cons (oe_var 10) (oa_cons (oe_eq hr.r (oe_fn (g__law_gulp T) hr (by decide) tk (oa_cons (oe_var 0) (oa_cons oe_int oa_nil))) oe_int) oa_nil))))) (ow_or1 (ot_not (ot_val (oe_fn (g__law_draft_tells T) hr (by decide) tk (oa_cons (oe_var 7) (oa_cons (oe_var 9) oa_nil)))))))) (oss_one (os_ret oe_bl)) oss_nil) (oss_one (os_if (ot_w (ow_or (ot_neM (g_Space___eq__ T) T.isi T.eq_Space T.ne_Space hr (by decide) (oe_make false (g_Space___init__ T) hr (by decide) tk (oa_cons (oe_prop (g_Space_text T) hr (by decide) (oe_prop (g_Draft_space T) hr (by decide) (oe_var 7))) oa_nil)) (oe_prop (g_Draft_space T) hr (by decide) (oe_var 7))) (ow_or1 (ot_not (ot_val (oe_fn (g__law_draft_tells T) hr (by decide) tk (oa_cons (oe_var 8) (oa_cons (oe_var 3) oa_nil)))))))) (oss_one (os_ret oe_bl)) oss_nil)))))) (oss_cons (os_for po rfl (oi_range1 T.f_range oe_int) (og_name nd) (oss_cons (os_expr (oe_pop (oe_var 9))) (oss_one (os_if (ot_w (ow_or (ot_notN (oe_meth0 (g_Draft_undo T) hr (by decide) tk (oe_var 7))) (ow_or1 (ot_not (ot_val (oe_fn (g__law_draft_tells T) hr (by decide) tk (oa_cons (oe_var 7) (oa_cons (oe_var 9) oa_nil)))))))) (oss_one (os_ret oe_bl)) oss_nil)))) (oss_one (os_ret (oe_eqM (g_Space___eq__ T) T.isi T.eq_Space hr (by decide) (oe_prop (g_Draft_space T) hr (by decide) (oe_var 7)) (oe_var 2))))))))))))
theorem sc__law_mug : FnScope ["_law_cells", "_law_turn", "_law_cell", "_law_stirred", "_law_each"] ["_law_cells", "_law_turn"] (defScope s__law_mug) := ⟨rfl, rfl, rfl, by decide +kernel, rfl, by decide +kernel, by decide +kernel⟩
theorem g__law_mug (T : Tp K mg) : GF P w K mg base "_law_mug" (defArgs s__law_mug) ["_law_cells", "_law_turn"] 1 m__law_mug := by
  obtain ⟨fd, F⟩ := T.d__law_mug
  refine ⟨T.g__law_mug, F.kp, fd, ?_, FunD.bindsN F (fun _ _ _ _ _ _ us hl => match us, hl with | [_, _], _ => rfl), Mir.FunD.hasPar F, Mir.FunD.at_ F⟩
  refine fn_okK (k := 0) F sc__law_mug rfl fun cdv A outer s H E hr => ?_
  have nd := sc__law_mug.nd
  have tk := takes_of (X := cxOf (L2.CX P w) P w K mg base ["_law_cells", "_law_turn", "_law_cell", "_law_stirred", "_law_each"] "_law_mug" (defScope s__law_mug) (He.ga K "_law_mug") cdv A outer s H E) rfl rfl rfl rfl
  have po := passes_of (X := cxOf (L2.CX P w) P w K mg base ["_law_cells", "_law_turn", "_law_cell", "_law_stirred", "_law_each"] "_law_mug" (defScope s__law_mug) (He.ga K "_law_mug") cdv A outer s H E) rfl
  exact (oss_cons (os_set (i := 2) nd (oe_if (ot_lt (oe_var 1) (oe_len T.f_len (oe_var 0))) (oe_it (oe_var 0) (oe_var 1)) (oe_mul oe_int (oe_add (oe_var 1) oe_int)))) (oss_cons (os_set (i := 3) nd (oe_add oe_int (oe_mul oe_int (oe_var 1)))) (oss_cons (os_for po rfl (oi_of (oe_add (oe_slice (oe_var 0) oo_none (oo_some oe_int)) (oe_lst (oa_cons (oe_var 2) oa_nil)))) (og_name nd) (oss_one (os_set (i := 3) nd (oe_mod (oe_intC T.f_int (oe_add (oe_add (oe_mul (oe_var 3) oe_int) (oe_mod (oe_intC T.f_int (oe_var 4)) oe_int)) oe_int)) oe_int)))) (oss_one (os_ret (oe_lstC (oa_cons (oe_if (ot_w (ow_or (ot_lt (oe_var 2) oe_int) (ow_or1 (ot_ge (oe_var 2) (oe_pow oe_int oe_int))))) (oe_abs T.f_abs (oe_var 2)) oe_int) (oa_cons (oe_var 3) oa_nil))))))))
theorem sc_law : FnScope ["_law_cells", "_law_turn"] ["_law_cells"] (defScope s_law) := ⟨rfl, rfl, rfl, by decide +kernel, rfl, by decide +kernel, by decide +kernel⟩
theorem g_law (T : Tp K mg) : GF P w K mg base "law" (defArgs s_law) ["_law_cells"] 10 m_law := by
  obtain ⟨fd, F⟩ := T.d_law
  refine ⟨T.g_law, F.kp, fd, ?_, FunD.bindsN F (fun _ _ _ _ _ _ us hl => match us, hl with | [_], _ => rfl), Mir.FunD.hasPar F, Mir.FunD.at_ F⟩
  refine fn_ok (k := 9) F sc_law rfl fun cdv A outer s H E hr => ?_
  have nd := sc_law.nd
  have tk := takes_of (X := cxOf (L2.CX P w) P w K mg base ["_law_cells", "_law_turn"] "law" (defScope s_law) (He.ga K "law") cdv A outer s H E) rfl rfl rfl rfl
  have po := passes_of (X := cxOf (L2.CX P w) P w K mg base ["_law_cells", "_law_turn"] "law" (defScope s_law) (He.ga K "law") cdv A outer s H E) rfl
  exact (oss_one (os_ret (oe_all rfl T.f_all (oe_lc rfl nd (oi_range1 T.f_range (oe_max2 rfl T.f_max oe_int (oe_min2 rfl T.f_min (oe_len T.f_len (oe_var 0)) oe_int))) (own := [("_law_turn", 1)]) (blkOk_by rfl) (by decide) (fun _ _ _ _ _ => (og_name nd)) (fun _ _ _ _ _ => ots_nil) (fun _ _ _ _ _ => (oe_cut (oe_fn (g__law_right T) hr (by decide) Mir.takes0 (oa_cons (oe_fn (g__law_mug T) hr (by decide) Mir.takes0 (oa_cons (oe_var 0) (oa_cons (oe_var 1) oa_nil))) oa_nil))))))))
end
def ck (K : PySem.W.Frag) : Bool := (He.Fa.free "abs").ok K && ((He.Fa.free "all").ok K && ((He.Fa.free "any").ok K && ((He.Fa.free "dict").ok K && ((He.Fa.free "divmod").ok K && ((He.Fa.free "enumerate").ok K && ((He.Fa.free "int").ok K && ((He.Fa.free "isinstance").ok K && ((He.Fa.free "len").ok K && ((He.Fa.free "list").ok K && ((He.Fa.free "max").ok K && ((He.Fa.free "min").ok K && ((He.Fa.free "range").ok K && ((He.Fa.free "set").ok K && ((He.Fa.free "sorted").ok K && ((He.Fa.free "str").ok K && ((He.Fa.free "sum").ok K && ((He.Fa.free "tuple").ok K && ((He.Fa.free "zip").ok K && (gloB K "DIGITS" (.str [48, 49, 50, 51, 52, 53, 54, 55, 56, 57]) && (gloB K "LETTERS" (.str [97, 98, 99, 100, 101, 102, 103, 104, 105, 106, 107, 108, 109, 110, 111, 112, 113, 114, 115, 116, 117, 118, 119, 120, 121, 122]) && (gloB K "LONGEST" (.int 8) && (gloB K "MOST_POINTS" (.int 256) && (eqcB K "Space" && (neB K "Space" && ((He.Fa.glo "Draft").ok K && ((He.Fa.glo "Space").ok K && ((He.Fa.glo "_law_after").ok K && ((He.Fa.glo "_law_deed").ok K && ((He.Fa.glo "_law_did").ok K && ((He.Fa.glo "_law_draft_tells").ok K && ((He.Fa.glo "_law_grown").ok K && ((He.Fa.glo "_law_gulp").ok K && ((He.Fa.glo "_law_mug").ok K && ((He.Fa.glo "_law_near").ok K && ((He.Fa.glo "_law_one").ok K && ((He.Fa.glo "_law_right").ok K && ((He.Fa.glo "_law_shuffled").ok K && ((He.Fa.glo "_law_space_text").ok K && ((He.Fa.glo "_law_state").ok K && ((He.Fa.glo "_law_tags").ok K && ((He.Fa.glo "_law_told").ok K && ((He.Fa.glo "bits_of").ok K && ((He.Fa.glo "check_point").ok K && ((He.Fa.glo "check_space").ok K && ((He.Fa.glo "indexes_of").ok K && ((He.Fa.glo "is_name").ok K && ((He.Fa.glo "is_ordered").ok K && ((He.Fa.glo "is_seeing").ok K && ((He.Fa.glo "law").ok K && ((He.Fa.glo "names_of").ok K && ((He.Fa.glo "read_row").ok K && ((He.Fa.glo "read_space").ok K && ((He.Fa.glo "text_of").ok K && ((He.Fa.cls "Draft").ok K && ((He.Fa.cls "Space").ok K && ((He.Fa.noat "Draft" "held").ok K && ((He.Fa.noat "Space" "order").ok K && ((He.Fa.noat "Space" "seen").ok K && ((He.Fa.noat "Space" "told").ok K && ((He.Fa.mkr "Space").ok K && ((He.Fa.mkr "Draft").ok K && (propB K "Draft" "space" && (propB K "Space" "text" && (propB K "Draft" "changes" && (propB K "Space" "points" && ((He.Fa.meth "Space" "near").ok K && ((He.Fa.meth "Draft" "become").ok K && ((He.Fa.meth "Draft" "add").ok K && ((He.Fa.meth "Draft" "remove").ok K && ((He.Fa.meth "Draft" "cut").ok K && ((He.Fa.meth "Draft" "link").ok K && ((He.Fa.meth "Space" "__eq__").ok K && ((He.Fa.meth "Draft" "undo").ok K && (isiB K isiCs))))))))))))))))))))))))))))))))))))))))))))))))))))))))))))))))))))))))))
def fns : List DefM := [⟨fun K => He.ga K "_law_gulp", "_law_gulp", "_law_gulp", defArgs s__law_gulp, defBody s__law_gulp, defScope s__law_gulp⟩,
  ⟨fun K => He.ga K "_law_shuffled", "_law_shuffled", "_law_shuffled", defArgs s__law_shuffled, defBody s__law_shuffled, defScope s__law_shuffled⟩,
  ⟨fun K => He.ga K "_law_tags", "_law_tags", "_law_tags", defArgs s__law_tags, defBody s__law_tags, defScope s__law_tags⟩,
  ⟨fun K => He.ga K "_law_one", "_law_one", "_law_one", defArgs s__law_one, defBody s__law_one, defScope s__law_one⟩,
  ⟨fun K => He.ga K "_law_grown", "_law_grown", "_law_grown", defArgs s__law_grown, defBody s__law_grown, defScope s__law_grown⟩,
  ⟨fun K => He.ga K "_law_near", "_law_near", "_law_near", defArgs s__law_near, defBody s__law_near, defScope s__law_near⟩,
  ⟨fun K => He.ga K "is_name", "is_name", "is_name", defArgs s_is_name, defBody s_is_name, defScope s_is_name⟩,
  ⟨fun K => He.ga K "read_row", "read_row", "read_row", defArgs s_read_row, defBody s_read_row, defScope s_read_row⟩,
  ⟨fun K => He.ga K "is_ordered", "is_ordered", "is_ordered", defArgs s_is_ordered, defBody s_is_ordered, defScope s_is_ordered⟩,
  ⟨fun K => He.ga K "bits_of", "bits_of", "bits_of", defArgs s_bits_of, defBody s_bits_of, defScope s_bits_of⟩,
  ⟨fun K => He.ga K "indexes_of", "indexes_of", "indexes_of", defArgs s_indexes_of, defBody s_indexes_of, defScope s_indexes_of⟩,
  ⟨fun K => He.ga K "is_seeing", "is_seeing", "is_seeing", defArgs s_is_seeing, defBody s_is_seeing, defScope s_is_seeing⟩,
  ⟨fun K => He.ga K "read_space", "read_space", "read_space", defArgs s_read_space, defBody s_read_space, defScope s_read_space⟩,
  ⟨fun K => He.ma K (He.ga K "Space") "__init__", "__init__", "Space.__init__", defArgs s_Space___init__, defBody s_Space___init__, defScope s_Space___init__⟩,
  ⟨fun K => He.ga K "_law_space_text", "_law_space_text", "_law_space_text", defArgs s__law_space_text, defBody s__law_space_text, defScope s__law_space_text⟩,
  ⟨fun K => He.ga K "_law_state", "_law_state", "_law_state", defArgs s__law_state, defBody s__law_state, defScope s__law_state⟩,
  ⟨fun K => He.ga K "check_space", "check_space", "check_space", defArgs s_check_space, defBody s_check_space, defScope s_check_space⟩,
  ⟨fun K => He.ma K (He.ga K "Draft") "__init__", "__init__", "Draft.__init__", defArgs s_Draft___init__, defBody s_Draft___init__, defScope s_Draft___init__⟩,
  ⟨fun K => pg K "Draft" "space", "space", "Draft.space", defArgs s_Draft_space, defBody s_Draft_space, defScope s_Draft_space⟩,
  ⟨fun K => pg K "Space" "text", "text", "Space.text", defArgs s_Space_text, defBody s_Space_text, defScope s_Space_text⟩,
  ⟨fun K => He.ga K "_law_told", "_law_told", "_law_told", defArgs s__law_told, defBody s__law_told, defScope s__law_told⟩,
  ⟨fun K => pg K "Draft" "changes", "changes", "Draft.changes", defArgs s_Draft_changes, defBody s_Draft_changes, defScope s_Draft_changes⟩,
  ⟨fun K => pg K "Space" "points", "points", "Space.points", defArgs s_Space_points, defBody s_Space_points, defScope s_Space_points⟩,
  ⟨fun K => He.ga K "check_point", "check_point", "check_point", defArgs s_check_point, defBody s_check_point, defScope s_check_point⟩,
  ⟨fun K => He.ga K "names_of", "names_of", "names_of", defArgs s_names_of, defBody s_names_of, defScope s_names_of⟩,
  ⟨fun K => He.ma K (He.ga K "Space") "near", "near", "Space.near", defArgs s_Space_near, defBody s_Space_near, defScope s_Space_near⟩,
  ⟨fun K => He.ga K "_law_draft_tells", "_law_draft_tells", "_law_draft_tells", defArgs s__law_draft_tells, defBody s__law_draft_tells, defScope s__law_draft_tells⟩,
  ⟨fun K => He.ga K "_law_deed", "_law_deed", "_law_deed", defArgs s__law_deed, defBody s__law_deed, defScope s__law_deed⟩,
  ⟨fun K => He.ga K "_law_after", "_law_after", "_law_after", defArgs s__law_after, defBody s__law_after, defScope s__law_after⟩,
  ⟨fun K => He.ga K "text_of", "text_of", "text_of", defArgs s_text_of, defBody s_text_of, defScope s_text_of⟩,
  ⟨fun K => He.ma K (He.ga K "Draft") "become", "become", "Draft.become", defArgs s_Draft_become, defBody s_Draft_become, defScope s_Draft_become⟩,
  ⟨fun K => He.ma K (He.ga K "Draft") "add", "add", "Draft.add", defArgs s_Draft_add, defBody s_Draft_add, defScope s_Draft_add⟩,
  ⟨fun K => He.ma K (He.ga K "Draft") "remove", "remove", "Draft.remove", defArgs s_Draft_remove, defBody s_Draft_remove, defScope s_Draft_remove⟩,
  ⟨fun K => He.ma K (He.ga K "Draft") "cut", "cut", "Draft.cut", defArgs s_Draft_cut, defBody s_Draft_cut, defScope s_Draft_cut⟩,
  ⟨fun K => He.ma K (He.ga K "Draft") "link", "link", "Draft.link", defArgs s_Draft_link, defBody s_Draft_link, defScope s_Draft_link⟩,
  ⟨fun K => He.ga K "_law_did", "_law_did", "_law_did", defArgs s__law_did, defBody s__law_did, defScope s__law_did⟩,
  ⟨fun K => He.ma K (He.ga K "Space") "__eq__", "__eq__", "Space.__eq__", defArgs s_Space___eq__, defBody s_Space___eq__, defScope s_Space___eq__⟩,
  ⟨fun K => He.ma K (He.ga K "Draft") "undo", "undo", "Draft.undo", defArgs s_Draft_undo, defBody s_Draft_undo, defScope s_Draft_undo⟩,
  ⟨fun K => He.ga K "_law_right", "_law_right", "_law_right", defArgs s__law_right, defBody s__law_right, defScope s__law_right⟩,
  ⟨fun K => He.ga K "_law_mug", "_law_mug", "_law_mug", defArgs s__law_mug, defBody s__law_mug, defScope s__law_mug⟩,
  ⟨fun K => He.ga K "law", "law", "law", defArgs s_law, defBody s_law, defScope s_law⟩]
theorem tp_of {K : PySem.W.Frag} {h : Heap} {mg : Str → Option Value} (X : K.In h) (G : h.Ns mainGlobals mg) (c : SaysM ck fns K) : Tp K mg := by
  have h0 := c.chk
  obtain ⟨a0, h1⟩ := He.ba h0
  obtain ⟨a1, h2⟩ := He.ba h1
  obtain ⟨a2, h3⟩ := He.ba h2
  obtain ⟨a3, h4⟩ := He.ba h3
  obtain ⟨a4, h5⟩ := He.ba h4
  obtain ⟨a5, h6⟩ := He.ba h5
  obtain ⟨a6, h7⟩ := He.ba h6
  obtain ⟨a7, h8⟩ := He.ba h7
  obtain ⟨a8, h9⟩ := He.ba h8
  obtain ⟨a9, h10⟩ := He.ba h9
  obtain ⟨a10, h11⟩ := He.ba h10
  obtain ⟨a11, h12⟩ := He.ba h11
  obtain ⟨a12, h13⟩ := He.ba h12
  obtain ⟨a13, h14⟩ := He.ba h13
  obtain ⟨a14, h15⟩ := He.ba h14
  obtain ⟨a15, h16⟩ := He.ba h15
  obtain ⟨a16, h17⟩ := He.ba h16
  obtain ⟨a17, h18⟩ := He.ba h17
  obtain ⟨a18, h19⟩ := He.ba h18
  obtain ⟨a19, h20⟩ := He.ba h19
  obtain ⟨a20, h21⟩ := He.ba h20
  obtain ⟨a21, h22⟩ := He.ba h21
  obtain ⟨a22, h23⟩ := He.ba h22
  obtain ⟨a23, h24⟩ := He.ba h23
  obtain ⟨a24, h25⟩ := He.ba h24
  obtain ⟨a25, h26⟩ := He.ba h25
  obtain ⟨a26, h27⟩ := He.ba h26
  obtain ⟨a27, h28⟩ := He.ba h27
  obtain ⟨a28, h29⟩ := He.ba h28
  obtain ⟨a29, h30⟩ := He.ba h29
  obtain ⟨a30, h31⟩ := He.ba h30
  obtain ⟨a31, h32⟩ := He.ba h31
  obtain ⟨a32, h33⟩ := He.ba h32
  obtain ⟨a33, h34⟩ := He.ba h33
  obtain ⟨a34, h35⟩ := He.ba h34
  obtain ⟨a35, h36⟩ := He.ba h35
  obtain ⟨a36, h37⟩ := He.ba h36
  obtain ⟨a37, h38⟩ := He.ba h37
  obtain ⟨a38, h39⟩ := He.ba h38
  obtain ⟨a39, h40⟩ := He.ba h39
  obtain ⟨a40, h41⟩ := He.ba h40
  obtain ⟨a41, h42⟩ := He.ba h41
  obtain ⟨a42, h43⟩ := He.ba h42
  obtain ⟨a43, h44⟩ := He.ba h43
  obtain ⟨a44, h45⟩ := He.ba h44
  obtain ⟨a45, h46⟩ := He.ba h45
  obtain ⟨a46, h47⟩ := He.ba h46
  obtain ⟨a47, h48⟩ := He.ba h47
  obtain ⟨a48, h49⟩ := He.ba h48
  obtain ⟨a49, h50⟩ := He.ba h49
  obtain ⟨a50, h51⟩ := He.ba h50
  obtain ⟨a51, h52⟩ := He.ba h51
  obtain ⟨a52, h53⟩ := He.ba h52
  obtain ⟨a53, h54⟩ := He.ba h53
  obtain ⟨a54, h55⟩ := He.ba h54
  obtain ⟨a55, h56⟩ := He.ba h55
  obtain ⟨a56, h57⟩ := He.ba h56
  obtain ⟨a57, h58⟩ := He.ba h57
  obtain ⟨a58, h59⟩ := He.ba h58
  obtain ⟨a59, h60⟩ := He.ba h59
  obtain ⟨a60, h61⟩ := He.ba h60
  obtain ⟨a61, h62⟩ := He.ba h61
  obtain ⟨a62, h63⟩ := He.ba h62
  obtain ⟨a63, h64⟩ := He.ba h63
  obtain ⟨a64, h65⟩ := He.ba h64
  obtain ⟨a65, h66⟩ := He.ba h65
  obtain ⟨a66, h67⟩ := He.ba h66
  obtain ⟨a67, h68⟩ := He.ba h67
  obtain ⟨a68, h69⟩ := He.ba h68
  obtain ⟨a69, h70⟩ := He.ba h69
  obtain ⟨a70, h71⟩ := He.ba h70
  obtain ⟨a71, h72⟩ := He.ba h71
  obtain ⟨a72, h73⟩ := He.ba h72
  obtain ⟨a73, h74⟩ := He.ba h73
  have a74 := h74
  exact ⟨He.free_ok X G a0, He.free_ok X G a1, He.free_ok X G a2, He.free_ok X G a3, He.free_ok X G a4, He.free_ok X G a5, He.free_ok X G a6, He.free_ok X G a7, He.free_ok X G a8, He.free_ok X G a9, He.free_ok X G a10, He.free_ok X G a11, He.free_ok X G a12, He.free_ok X G a13, He.free_ok X G a14, He.free_ok X G a15, He.free_ok X G a16, He.free_ok X G a17, He.free_ok X G a18, gloB_ok X G a19, gloB_ok X G a20, gloB_ok X G a21, gloB_ok X G a22, eqcB_ok a23, neB_ok a24, He.glo_ok X G a25, He.glo_ok X G a26, He.glo_ok X G a27, He.glo_ok X G a28, He.glo_ok X G a29, He.glo_ok X G a30, He.glo_ok X G a31, He.glo_ok X G a32, He.glo_ok X G a33, He.glo_ok X G a34, He.glo_ok X G a35, He.glo_ok X G a36, He.glo_ok X G a37, He.glo_ok X G a38, He.glo_ok X G a39, He.glo_ok X G a40, He.glo_ok X G a41, He.glo_ok X G a42, He.glo_ok X G a43, He.glo_ok X G a44, He.glo_ok X G a45, He.glo_ok X G a46, He.glo_ok X G a47, He.glo_ok X G a48, He.glo_ok X G a49, He.glo_ok X G a50, He.glo_ok X G a51, He.glo_ok X G a52, He.glo_ok X G a53, He.cls_ok a54, He.cls_ok a55, He.noat_ok a56, He.noat_ok a57, He.noat_ok a58, He.noat_ok a59, He.mkr_ok a60, He.mkr_ok a61, propB_ok a62, propB_ok a63, propB_ok a64, propB_ok a65, He.meth_ok a66, He.meth_ok a67, He.meth_ok a68, He.meth_ok a69, He.meth_ok a70, He.meth_ok a71, He.meth_ok a72, He.meth_ok a73, isiB_ok a74, c.def_ 0, c.def_ 1, c.def_ 2, c.def_ 3, c.def_ 4, c.def_ 5, c.def_ 6, c.def_ 7, c.def_ 8, c.def_ 9, c.def_ 10, c.def_ 11, c.def_ 12, c.def_ 13, c.def_ 14, c.def_ 15, c.def_ 16, c.def_ 17, c.def_ 18, c.def_ 19, c.def_ 20, c.def_ 21, c.def_ 22, c.def_ 23, c.def_ 24, c.def_ 25, c.def_ 26, c.def_ 27, c.def_ 28, c.def_ 29, c.def_ 30, c.def_ 31, c.def_ 32, c.def_ 33, c.def_ 34, c.def_ 35, c.def_ 36, c.def_ 37, c.def_ 38, c.def_ 39, c.def_ 40⟩
abbrev R : PySem.W.OpenRow := PySem.W.OpenLaw.row PySem.Challenge.rw_closedinner_k52_whole_drafts_through_cha

abbrev hk : PySem.W.Hook := hookM 6 ck fns
def ob (s : PySem.W.SharedT) : AlM := obsMG 6 ck fns (HandSHeadRun.getT s)
theorem ob_eq (s : PySem.W.SharedT) : ob s = hk.obs s.abs := obsMG_eq (HandSHeadRun.getT_eq s)
end Law

section
namespace Law
open PySem PySem.Spec PyProof.Rows L2 Mir
def loose : List PySem.Str := (("_wall" : PySem.Str) :: ("WrongValue" : PySem.Str) :: ("InvalidText" : PySem.Str) :: ("InvalidName" : PySem.Str) :: ("NotASpace" : PySem.Str) :: ("WrongName" : PySem.Str) :: ("UnknownName" : PySem.Str) :: ("Taken" : PySem.Str) :: ("NoAnswer" : PySem.Str) :: ("TooMany" : PySem.Str) :: ("Alone" : PySem.Str) :: ("NothingToUndo" : PySem.Str) :: ("MOST_POINTS" : PySem.Str) :: ("DIGITS" : PySem.Str) :: ("LETTERS" : PySem.Str) :: ("LONGEST" : PySem.Str) :: ("is_name" : PySem.Str) :: ("read_row" : PySem.Str) :: ("is_ordered" : PySem.Str) :: ("bits_of" : PySem.Str) :: ("read_space" : PySem.Str) :: ("is_seeing" : PySem.Str) :: ("indexes_of" : PySem.Str) :: ("text_of" : PySem.Str) :: ("Space" : PySem.Str) :: ("names_of" : PySem.Str) :: ("check_space" : PySem.Str) :: ("check_point" : PySem.Str) :: ("Draft" : PySem.Str) :: ("_law_mug" : PySem.Str) :: ("_law_gulp" : PySem.Str) :: ("_law_one" : PySem.Str) :: ("_law_shuffled" : PySem.Str) :: ("_law_tags" : PySem.Str) :: ("_law_grown" : PySem.Str) :: ("_law_near" : PySem.Str) :: ("_law_space_text" : PySem.Str) :: ("_law_state" : PySem.Str) :: ("_law_told" : PySem.Str) :: ("_law_after" : PySem.Str) :: ("_law_deed" : PySem.Str) :: ("_law_did" : PySem.Str) :: ("_law_draft_tells" : PySem.Str) :: ("_law_right" : PySem.Str) :: [])
theorem tri {α β γ δ : Type} {o : Option α} {f : α → β} {g : α → γ} {h : α → δ} {x : β} {y : γ} {z : δ} (a : o.map f = some x) (b : o.map g = some y) (c : o.map h = some z) : o.map (fun s => (f s, g s, h s)) = some (x, y, z) := by
  cases o with
  | none => cases a
  | some s =>
    cases a
    cases b
    cases c
    rfl
section
open HandSHeadRun PySem.W PySem.Calls
theorem run_a (w : World) (os : OsState) : (HandSHeadRun.endF (stepQ (denQ tabQ) R.prog w) 7000 R.prog w os).map (fun s => looksF R.prog (boot_heap w.params) s.abs) = some true := by kernel_rfl
theorem run_b (w : World) (os : OsState) : (HandSHeadRun.endF (stepQ (denQ tabQ) R.prog w) 7000 R.prog w os).map (fun s => seenQ (view R.prog [49]) loose (importedModules R.prog.main.body) (fun s => xlAt (view R.prog [49]) [] s && recOk R.toRowW.records s) s.abs) = some (openGood (view R.prog [49]) loose) := by kernel_rfl
theorem run_c (w : World) (os : OsState) : (HandSHeadRun.endF (stepQ (denQ tabQ) R.prog w) 7000 R.prog w os).map (fun s => ob s) = some (hk.val w) := by kernel_rfl
end
theorem run (w : World) : HandSHeadRun.RunEq R (PySem.W.view R.prog [49]) hk ob 7000 loose w := fun os => tri (run_a w os) (run_b w os) (run_c w os)
end Law
open PySem PySem.W PySem.Calls PyProof.Rows
theorem law_of (hm : ∀ ns : List Int, ns.length ≤ 63 → ∃ S', Law.m_law [.p (.scr (ns.map Mir.P.int))] [] = .ok (.p (.bl true)) S') : PySem.Challenge.rw_closedinner_k52_whole_drafts_through_cha.Holds := by
  w_on; o_law
  refine HandSHeadRun.head_any (r := OpenLaw.row PySem.Challenge.rw_closedinner_k52_whole_drafts_through_cha) (q := view (OpenLaw.row PySem.Challenge.rw_closedinner_k52_whole_drafts_through_cha).prog [49]) (H := Law.hk) (ob := Law.ob) (M := 7000) (loose := Law.loose) (d := HandSHeadRun.topDef (OpenLaw.row PySem.Challenge.rw_closedinner_k52_whole_drafts_through_cha).prog 49) (kwd := []) Law.ob_eq
    (by kernel_rfl) (fun s => by kernel_rfl) Law.run (by kernel_rfl) (by kernel_rfl) (by kernel_rfl) (by rfl) (by first | assumption | decide +kernel) (by decide +kernel) ⟨rfl, rfl, rfl, rfl, rfl, by decide +kernel⟩ ?hw ?hc
  case hw => w_witness2
  case hc =>
    refine Mir.walkG (l := PySem.Challenge.rw_closedinner_k52_whole_drafts_through_cha) (n := 63) (k := 10) (x := "_law_cells") (m := Law.m_law) rfl (by decide) (by kernel_rfl) ⟨⟨rfl, by decide, by decide⟩, rfl⟩ ?F hm
    intro w mg fa h Y G hmg0
    obtain ⟨K, KX, c⟩ := Y
    have T := Law.tp_of KX G c
    have hmg : mg ("law" : PySem.Str) = some (.ref fa) := by
      have e : (HandSHeadRun.topDef (OpenLaw.row PySem.Challenge.rw_closedinner_k52_whole_drafts_through_cha).prog 49).name = ("law" : PySem.Str) := by kernel_rfl
      rw [← e]
      exact hmg0
    have e := hmg.symm.trans T.g_law
    cases e
    obtain ⟨fd, F⟩ := T.d_law
    have b := L2.FunD.bindsA (ps := ["_law_cells"]) F fun _ _ _ _ _ _ us hl => match us, hl with | [_], _ => rfl
    refine ⟨K, fd, KX, fun s v => b s [v] rfl, fun base _ _ => ?_⟩
    obtain ⟨fd', F', _, _, hp⟩ := (Law.g_law (P := (PySem.Challenge.rw_closedinner_k52_whole_drafts_through_cha).prog) (w := w) (base := base) T).fn
    have e2 := (Mir.FunD.at_ F).symm.trans hp
    cases e2
    exact F'
end

namespace Pl
def row (rows : List (List Nat)) (k : Nat) : List Nat := rows.getD k []
structure Good (n : Nat) (rows : List (List Nat)) : Prop where
  len : rows.length = n
  rfl_ : ∀ k, k < n → k ∈ row rows k
  lt : ∀ k, k < n → ∀ e ∈ row rows k, e < n
  nd : ∀ k, k < n → (row rows k).Nodup
theorem row_set_self {rows : List (List Nat)} {k : Nat} {l : List Nat} (h : k < rows.length) : row (rows.set k l) k = l := by
  unfold row
  rw [List.getD_eq_getElem?_getD, List.getElem?_set_self h]
  rfl
theorem row_set_ne {rows : List (List Nat)} {k j : Nat} {l : List Nat} (h : k ≠ j) : row (rows.set k l) j = row rows j := by
  unfold row
  rw [List.getD_eq_getElem?_getD, List.getElem?_set_ne h, List.getD_eq_getElem?_getD]
def Sub (n : Nat) (a b : List (List Nat)) : Prop := ∀ i, i < n → ∀ e ∈ row a i, e ∈ row b i
theorem Sub.refl {n : Nat} {a : List (List Nat)} : Sub n a a := fun _ _ _ h => h
theorem Sub.trans {n : Nat} {a b c : List (List Nat)} (h : Sub n a b) (h' : Sub n b c) : Sub n a c := fun i hi e he => h' i hi e (h i hi e he)
def In_ (n : Nat) (rows : List (List Nat)) (T : Nat → Nat → Prop) : Prop := ∀ i, i < n → ∀ e ∈ row rows i, T i e
section
variable {n : Nat} {rows : List (List Nat)} {T : Nat → Nat → Prop}
end
def B (r : Nat → Nat → Bool) (n : Nat) : Nat → Nat → Nat → Bool
  | 0, i, m => i == m
  | t + 1, i, m => (List.range n).any fun a => B r n t i a && r a m
section
variable {r : Nat → Nat → Bool} {n : Nat}
theorem B_mono (hr : ∀ a, a < n → r a a = true) (hl : ∀ a b, r a b = true → b < n) {i m : Nat} : ∀ t, m < n → B r n t i m = true → B r n (t + 1) i m = true := fun t hm h => by
  unfold B
  rw [List.any_eq_true]
  exact ⟨m, List.mem_range.mpr hm, by rw [h, hr m hm]; rfl⟩
theorem B_lt (hl : ∀ a b, r a b = true → b < n) {i m : Nat} (hi : i < n) : ∀ t, B r n t i m = true → m < n
  | 0, h => by
    have h : (i == m) = true := h
    rw [beq_iff_eq] at h
    rw [← h]; exact hi
  | t + 1, h => by
    unfold B at h
    rw [List.any_eq_true] at h
    obtain ⟨a, _, ha⟩ := h
    rw [Bool.and_eq_true] at ha
    exact hl a m ha.2
theorem count_lt {p q : Nat → Bool} : ∀ {l : List Nat}, (∀ x ∈ l, p x = true → q x = true) → (∃ x ∈ l, q x = true ∧ p x = false) → l.countP p < l.countP q
  | [], _, ⟨x, hx, _⟩ => by cases hx
  | y :: l, h, ⟨x, hx, h1, h2⟩ => by
    have le : l.countP p ≤ l.countP q := List.countP_mono_left fun z hz => h z (List.mem_cons_of_mem _ hz)
    rw [List.countP_cons, List.countP_cons]
    rcases List.mem_cons.mp hx with rfl | hx
    · rw [if_neg (by rw [h2]; decide), if_pos h1]; omega
    · have ih := count_lt (fun z hz => h z (List.mem_cons_of_mem _ hz)) ⟨x, hx, h1, h2⟩
      by_cases hp : p y = true
      · rw [if_pos hp, if_pos (h y List.mem_cons_self hp)]; omega
      · rw [if_neg hp]; omega
theorem B_stable (hr : ∀ a, a < n → r a a = true) (hl : ∀ a b, r a b = true → b < n) {i : Nat} (hi : i < n) : ∃ t, t ≤ n ∧ ∀ m, m < n → B r n (t + 1) i m = true → B r n t i m = true := by
  have key : ∀ t, (∃ s, s ≤ t ∧ ∀ m, m < n → B r n (s + 1) i m = true → B r n s i m = true) ∨ t < (List.range n).countP (B r n t i) := by
    intro t
    induction t with
    | zero =>
      refine .inr ?_
      have : 0 < (List.range n).countP (B r n 0 i) := List.countP_pos_iff.mpr ⟨i, List.mem_range.mpr hi, by show (i == i) = true; simp⟩
      exact this
    | succ t ih =>
      rcases ih with ⟨s, hs, h⟩ | ih
      · exact .inl ⟨s, by omega, h⟩
      · by_cases q : ∃ x ∈ List.range n, B r n (t + 1) i x = true ∧ B r n t i x = false
        · refine .inr ?_
          have := count_lt (p := B r n t i) (q := B r n (t + 1) i) (l := List.range n) (fun x hx h => B_mono hr hl t (List.mem_range.mp hx) h) q
          omega
        · refine .inl ⟨t, by omega, fun m hm h => ?_⟩
          cases z : B r n t i m with
          | true => rfl
          | false => exact absurd ⟨m, List.mem_range.mpr hm, h, z⟩ q
  rcases key n with ⟨s, hs, h⟩ | h
  · exact ⟨s, hs, h⟩
  · have := List.countP_le_length (p := B r n n i) (l := List.range n)
    rw [List.length_range] at this
    omega
theorem B_up (hr : ∀ a, a < n → r a a = true) (hl : ∀ a b, r a b = true → b < n) {i m : Nat} (hm : m < n) {s t : Nat} (h : s ≤ t) (hb : B r n s i m = true) : B r n t i m = true := by
  induction t with
  | zero =>
    have : s = 0 := by omega
    subst this; exact hb
  | succ t ih =>
    by_cases q : s = t + 1
    · subst q; exact hb
    · exact B_mono hr hl t hm (ih (by omega))
theorem B_all (hr : ∀ a, a < n → r a a = true) (hl : ∀ a b, r a b = true → b < n) {i : Nat} (hi : i < n) : ∀ (t m : Nat), m < n → B r n t i m = true → B r n n i m = true := by
  obtain ⟨s, hs, h⟩ := B_stable hr hl hi
  have st : ∀ t m, m < n → B r n t i m = true → B r n s i m = true := by
    intro t
    induction t with
    | zero => exact fun m hm hb => B_up hr hl hm (Nat.zero_le _) hb
    | succ t ih =>
      intro m hm hb
      have hb' := hb
      unfold B at hb'
      rw [List.any_eq_true] at hb'
      obtain ⟨a, ha, hab⟩ := hb'
      rw [Bool.and_eq_true] at hab
      have han := List.mem_range.mp ha
      have h1 := ih a han hab.1
      refine h m hm ?_
      unfold B
      rw [List.any_eq_true]
      exact ⟨a, ha, by rw [h1, hab.2]; rfl⟩
  exact fun t m hm hb => B_up hr hl hm hs (st t m hm hb)
theorem B_trans (hl : ∀ a b, r a b = true → b < n) {i j m : Nat} (hj : j < n) : ∀ (s t : Nat), B r n s i j = true → B r n t j m = true → B r n (s + t) i m = true := by
  intro s t
  induction t generalizing m with
  | zero =>
    intro h1 h2
    have h2 : (j == m) = true := h2
    rw [beq_iff_eq] at h2
    subst h2; exact h1
  | succ t ih =>
    intro h1 h2
    unfold B at h2
    rw [List.any_eq_true] at h2
    obtain ⟨a, ha, hab⟩ := h2
    rw [Bool.and_eq_true] at hab
    show B r n (s + t + 1) i m = true
    unfold B
    rw [List.any_eq_true]
    exact ⟨a, ha, by rw [ih h1 hab.1, hab.2]; rfl⟩
end
end Pl
namespace Pl
theorem nodup_len : ∀ (n : Nat) (l : List Nat), l.Nodup → (∀ e ∈ l, e < n) → l.length ≤ n
  | 0, l, _, h => by
    cases l with
    | nil => exact Nat.le_refl _
    | cons a l => exact absurd (h a List.mem_cons_self) (by omega)
  | n + 1, l, nd, h => by
    by_cases q : n ∈ l
    · have ih := nodup_len n (l.erase n) (nd.erase n) fun e he => by
        have := (nd.mem_erase_iff).mp he
        have h2 := h e this.2
        have h3 := this.1
        omega
      rw [List.length_erase_of_mem q] at ih
      have : 0 < l.length := List.length_pos_of_mem q
      omega
    · have ih := nodup_len n l nd fun e he => by
        have h2 := h e he
        have : e ≠ n := fun z => q (by rw [← z]; exact he)
        omega
      omega
theorem Good.rlen {n : Nat} {rows : List (List Nat)} (g : Good n rows) {k : Nat} (hk : k < n) : (row rows k).length ≤ n := nodup_len n _ (g.nd k hk) (g.lt k hk)
end Pl

namespace Mir
open L2
@[simp] theorem bind_ok {A B : Type} (a : A) (S : Sto) (f : A → Sto → Res B) : (Res.ok a S).bind f = f a S := rfl
@[simp] theorem bind_bad {A B : Type} (f : A → Sto → Res B) : (Res.bad : Res A).bind f = .bad := rfl
@[simp] theorem go_ok {A : Type} (a : A) (S : Sto) (ρ : En) (f : A → Sto → RF) : (Res.ok a S).go ρ f = f a S := rfl
@[simp] theorem nox_ok {A : Type} (a : A) (S : Sto) : (Res.ok a S).nox = .ok a S := rfl
@[simp] theorem thn_nx (ρ : En) (S : Sto) (b : MS) : (RF.ok (.nx ρ) S).thn b = b ρ S := rfl
@[simp] theorem thn_rt (d : Vl) (S : Sto) (b : MS) : (RF.ok (.rt d) S).thn b = .ok (.rt d) S := rfl
@[simp] theorem rd_p (S : Sto) (x : P) : rd S (.p x) = some x := rfl
@[simp] theorem nv_p (S : Sto) (x : P) : nv S (.p x) = .p x := rfl
theorem rd_lst {S : Sto} {k : Nat} {xs : List P} (h : S[k]? = some (.lst xs)) : rd S (.c k) = some (.lst xs) := by
  unfold rd
  dsimp only
  rw [h]
theorem nv_lst {S : Sto} {k : Nat} {xs : List P} (h : S[k]? = some (.lst xs)) : nv S (.c k) = .c k := by
  unfold nv
  dsimp only
  rw [h]
theorem nv_lsv {S : Sto} {k : Nat} {xs : List Vl} (h : S[k]? = some (.lsv xs)) : nv S (.c k) = .c k := by
  unfold nv
  dsimp only
  rw [h]
theorem rd_fz {S : Sto} {k : Nat} {x : P} (h : S[k]? = some (.fz x)) : rd S (.c k) = some x := by
  unfold rd
  dsimp only
  rw [h]
theorem nv_fz {S : Sto} {k : Nat} {x : P} (h : S[k]? = some (.fz x)) : nv S (.c k) = .p x := by
  unfold nv
  dsimp only
  rw [h]
def ofO (o : Option P) (S : Sto) : Res Vl := match o with
  | some z => .ok (.p z) S
  | none => .bad
@[simp] theorem ofO_some (z : P) (S : Sto) : ofO (some z) S = .ok (.p z) S := rfl
@[simp] theorem op1_p (f : P → Option P) (x : P) (S : Sto) : op1 f (.p x) S = ofO (f x) S := rfl
@[simp] theorem op2_pp (f : P → P → Option P) (x y : P) (S : Sto) : op2 f (.p x) (.p y) S = ofO (f x y) S := rfl
theorem op2_rd {f : P → P → Option P} {d e : Vl} {x y : P} {S : Sto} (h1 : rd S d = some x) (h2 : rd S e = some y) : op2 f d e S = ofO (f x y) S := by
  unfold op2
  rw [h1, h2]
  rfl
theorem op1_rd {f : P → Option P} {d : Vl} {x : P} {S : Sto} (h1 : rd S d = some x) : op1 f d S = ofO (f x) S := by
  unfold op1
  rw [h1]
  rfl
@[simp] theorem rds_nil (S : Sto) : rds S [] = some [] := rfl
@[simp] theorem rds_p (S : Sto) (x : P) (ds : List Vl) : rds S (.p x :: ds) = (rds S ds).bind fun xs => some (x :: xs) := rfl
theorem rds_rd {S : Sto} {d : Vl} {x : P} {ds : List Vl} (h : rd S d = some x) : rds S (d :: ds) = (rds S ds).bind fun xs => some (x :: xs) := by
  show ((rd S d).bind fun x => (rds S ds).bind fun xs => some (x :: xs)) = _
  rw [h]
  rfl
@[simp] theorem call1_eq (f : List P → Option P) (ds : List Vl) (S : Sto) : call1 f ds S = (match rds S ds with
  | some xs => ofO (f xs) S
  | none => .bad) := rfl
section
variable (ρ : En) (S : Sto) (a b c : ME) (t u : MT) (m r : MA) (s s' : MS)
@[simp] theorem eVar_0 (d : Vl) : eVar 0 (some d :: ρ) S = .ok d S := rfl
@[simp] theorem eVar_s (i : Nat) (x : Option Vl) : eVar (i + 1) (x :: ρ) S = eVar i ρ S := by
  unfold eVar
  rw [List.getElem?_cons_succ]
@[simp] theorem eC_eq (x : P) : eC x ρ S = .ok (.p x) S := rfl
@[simp] theorem eBin_eq (f : P → P → Option P) : eBin f a b ρ S = (a ρ S).bind fun x S1 => (b ρ S1).bind fun y S2 => op2 f x y S2 := rfl
@[simp] theorem eUn_eq (f : P → Option P) : eUn f a ρ S = (a ρ S).bind fun x S1 => op1 f x S1 := rfl
@[simp] theorem eItem_eq : eItem a b ρ S = (a ρ S).bind fun d S1 => (b ρ S1).bind fun i S2 => ixV (nv S2 d) i S2 := rfl
@[simp] theorem eCall_eq (f : List P → Option P) : eCall f m ρ S = (m ρ S).bind fun ds S1 => call1 f ds S1 := rfl
@[simp] theorem eFn_eq (f : MF) : eFn f m ρ S = (m ρ S).bind f := rfl
@[simp] theorem aNil_eq : aNil ρ S = .ok [] S := rfl
@[simp] theorem aCons_eq : aCons a m ρ S = (a ρ S).bind fun x S1 => (m ρ S1).bind fun xs S2 => .ok (x :: xs) S2 := rfl
@[simp] theorem tst_bl (b : Bool) : tst (.p (.bl b)) S = .ok b S := rfl
@[simp] theorem tVal_eq : tVal a ρ S = (a ρ S).bind tst := rfl
@[simp] theorem tAnd_eq : tAndM t u ρ S = (t ρ S).bind fun x S1 => match x with
  | true => u ρ S1
  | false => .ok false S1 := rfl
@[simp] theorem tOr_eq : tOrM t u ρ S = (t ρ S).bind fun x S1 => match x with
  | true => .ok true S1
  | false => u ρ S1 := rfl
@[simp] theorem tNot_eq : tNotM t ρ S = (t ρ S).bind fun x S1 => .ok (!x) S1 := rfl
@[simp] theorem eAnd_eq : eAndM a b ρ S = (a ρ S).bind fun x S1 => (tst x S1).bind fun c S2 => match c with
  | true => b ρ S2
  | false => .ok (.p (.bl false)) S2 := rfl
@[simp] theorem eOr_eq : eOrM a b ρ S = (a ρ S).bind fun x S1 => (tst x S1).bind fun c S2 => match c with
  | true => .ok (.p (.bl true)) S2
  | false => b ρ S2 := rfl
@[simp] theorem eNot_eq : eNotM a ρ S = (a ρ S).bind fun x S1 => (tst x S1).bind fun c S2 => .ok (.p (.bl (!c))) S2 := rfl
@[simp] theorem eIf_eq : eIfM t a b ρ S = (t ρ S).bind fun x S1 => match x with
  | true => a ρ S1
  | false => b ρ S1 := rfl
@[simp] theorem eIsN_eq : eIsN a ρ S = (a ρ S).bind fun x S1 => .ok (.p (.bl (isN x))) S1 := rfl
@[simp] theorem eNotN_eq : eNotN a ρ S = (a ρ S).bind fun x S1 => .ok (.p (.bl (!isN x))) S1 := rfl
@[simp] theorem eTup_eq : eTup m ρ S = (m ρ S).bind fun xs S1 => (frzs xs S1).bind fun ys S2 => if ys.length ≤ 100000 then .ok (.p (.tup ys)) S2 else .bad := rfl
@[simp] theorem eLst_eq : eLst m ρ S = (m ρ S).bind fun xs S1 => (frzs xs S1).bind fun ys S2 => if ys.length ≤ 100000 then .ok (.p (.lst ys)) S2 else .bad := rfl
@[simp] theorem eLstC_eq : eLstC m ρ S = (m ρ S).bind fun xs S1 => (frzs xs S1).bind fun ys S2 => if ys.length ≤ 100000 then .ok (.c S2.length) (S2 ++ [.lst ys]) else .bad := rfl
@[simp] theorem frzs_nil : frzs [] S = .ok [] S := rfl
@[simp] theorem frzs_cons (d : Vl) (ds : List Vl) : frzs (d :: ds) S = (frz d S).bind fun y S1 => (frzs ds S1).bind fun ys S2 => .ok (y :: ys) S2 := rfl
@[simp] theorem eMthT_p (T : String) (f : P → List P → Option P) : eMthT T f a m ρ S = (a ρ S).bind fun d S1 => match rd S1 d with
  | some x => if tyP T x then (m ρ S1).bind fun ds S2 => call1 (fun xs => match xs with
    | x :: r => f x r
    | [] => none) (d :: ds) S2 else .bad
  | none => .bad := rfl
@[simp] theorem eMut_eq (g : Sto → Vl → Bool) (f : FM) : eMut g f a m ρ S = (a ρ S).bind fun d S1 => if g S1 d then (m ρ S1).bind fun ds S2 => f d ds S2 else .bad := rfl
@[simp] theorem sSeq_eq : sSeq s s' ρ S = (s ρ S).thn s' := rfl
@[simp] theorem sPass_eq : sPass ρ S = .ok (.nx ρ) S := rfl
@[simp] theorem sExpr_eq : sExpr a ρ S = (a ρ S).go ρ fun _ S1 => .ok (.nx ρ) S1 := rfl
@[simp] theorem sRet_eq : sRet a ρ S = (a ρ S).go ρ fun d S1 => .ok (.rt d) S1 := rfl
@[simp] theorem sIf_eq : sIf t s s' ρ S = (t ρ S).go ρ fun c S1 => match c with
  | true => s ρ S1
  | false => s' ρ S1 := rfl
@[simp] theorem sAsg_eq (g : MG) : sAsg a g ρ S = (a ρ S).go ρ fun d S1 => ((g d ρ S1).nox).go ρ fun ρ1 S2 => .ok (.nx ρ1) S2 := rfl
@[simp] theorem sPar_eq (i j : Nat) : sPar i j m ρ S = (m ρ S).go ρ fun ds S1 => match ds with
  | [d, d2] => .ok (.nx ((ρ.set i (some d)).set j (some d2))) S1
  | _ => .bad := rfl
@[simp] theorem sPar3_eq (i j l : Nat) : sPar3 i j l m ρ S = (m ρ S).go ρ fun ds S1 => match ds with
  | [d, d2, d3] => .ok (.nx (((ρ.set i (some d)).set j (some d2)).set l (some d3))) S1
  | _ => .bad := rfl
@[simp] theorem sParG_eq (n : Nat) (g : MGs) : sParG n m g ρ S = (m ρ S).go ρ fun ds S1 => if ds.length = n ∧ n ≤ 100000 then ((g ds ρ S1).nox).go ρ fun ρ1 S2 => .ok (.nx ρ1) S2 else .bad := rfl
@[simp] theorem gNm_eq (i : Nat) (d : Vl) : gNm i d ρ S = .ok (ρ.set i (some d)) S := rfl
@[simp] theorem gNl_eq : gNl [] ρ S = .ok ρ S := rfl
@[simp] theorem gCn_eq (g : MG) (r : MGs) (d : Vl) (ds : List Vl) : gCn g r (d :: ds) ρ S = (g d ρ S).nox.bind fun ρ1 S1 => r ds ρ1 S1 := rfl
@[simp] theorem gTp_eq (n : Nat) (r : MGs) (xs : List P) : gTp n r (.p (.tup xs)) ρ S = if xs.length = n then r (xs.map Vl.p) ρ S else .bad := rfl
@[simp] theorem gSub_eq (d : Vl) : gSubM a b d ρ S = (a ρ S).nox.bind fun o S1 => (b ρ S1).nox.bind fun i S2 => (setV o i d S2).bind fun _ S3 => .ok ρ S3 := rfl
@[simp] theorem gFld_eq (c f : PySem.Str) (d : Vl) : gFldM c f a d ρ S = (a ρ S).nox.bind fun o S1 => (fSet c f o d S1).bind fun _ S2 => .ok ρ S2 := rfl
@[simp] theorem sFor_eq (it : MI) (g : MG) : sFor it g s ρ S = (it ρ S).go ρ fun xs S1 => forGo g s xs ρ S1 := rfl
@[simp] theorem itOf_eq : itOf a ρ S = (a ρ S).bind fun d S1 => (frz d S1).bind fun x S2 => match itemsP x with
  | some xs => .ok xs S2
  | none => .bad := rfl
@[simp] theorem eSl_eq (l h : En → Sto → Res (Option Int)) : eSl a l h ρ S = (a ρ S).bind fun d S1 => (l ρ S1).bind fun lo S2 => (h ρ S2).bind fun hi S3 => op1 (pSl lo hi) d S3 := rfl
@[simp] theorem oNo_eq : oNo ρ S = .ok none S := rfl
@[simp] theorem oYes_eq : oYes a ρ S = (a ρ S).bind intV := rfl
@[simp] theorem intV_int (i : Int) : intV (.p (.int i)) S = .ok (some i) S := rfl
@[simp] theorem eFld_eq (c f : PySem.Str) : eFld c f a ρ S = (a ρ S).bind fun d S1 => fldV c f (nv S1 d) S1 := rfl
@[simp] theorem eProp_eq (c : PySem.Str) (f : MF) : eProp c f a ρ S = (a ρ S).bind fun d S1 => if isC c S1 (nv S1 d) then (f [d] S1).nox else .bad := rfl
@[simp] theorem eMeth_eq (c f : PySem.Str) (g : MF) : eMeth c f g a m ρ S = (a ρ S).bind fun d S1 => if isO c f S1 (nv S1 d) then (m ρ S1).bind fun ds S2 => g (d :: ds) S2 else .bad := rfl
@[simp] theorem eMake_eq (kp : Bool) (c : PySem.Str) (g : MF) : eMake kp c g m ρ S = (m ρ S).bind fun ds S1 => mkO kp c g ds S1 := rfl
end
@[simp] theorem ixV_p (x : P) (i : Vl) (S : Sto) : ixV (.p x) i S = op2 pIx (.p x) i S := by
  cases i <;> rfl
theorem ixV_lst {S : Sto} {k : Nat} {xs : List P} {j : Int} (h : S[k]? = some (.lst xs)) : ixV (.c k) (.p (.int j)) S = ofO (atI xs j) S := by
  unfold ixV
  dsimp only
  rw [h]
  show op2 pIx (.c k) (.p (.int j)) S = _
  rw [op2_rd (rd_lst h) (rd_p _ _)]
  rfl
@[simp] theorem pIB_int (g : Int → Int → Bool) (i j : Int) : pIB g (.int i) (.int j) = some (.bl (g i j)) := rfl
@[simp] theorem pI_int (g : Int → Int → Int) (i j : Int) : pI g (.int i) (.int j) = some (.int (g i j)) := rfl
@[simp] theorem pIC_int (C : Int → Int → Bool) (g : Int → Int → Int) (i j : Int) : pIC C g (.int i) (.int j) = if C i j then some (.int (g i j)) else none := rfl
@[simp] theorem pAdd_int (i j : Int) : pAdd (.int i) (.int j) = some (.int (i + j)) := rfl
@[simp] theorem pAdd_str (x y : List Nat) : pAdd (.str x) (.str y) = if x.length + y.length ≤ 100000 then some (.str (x ++ y)) else none := rfl
@[simp] theorem pAdd_lst (x y : List P) : pAdd (.lst x) (.lst y) = if x.length + y.length ≤ 100000 then some (.lst (x ++ y)) else none := rfl
@[simp] theorem pAdd_tup (x y : List P) : pAdd (.tup x) (.tup y) = if x.length + y.length ≤ 100000 then some (.tup (x ++ y)) else none := rfl
@[simp] theorem pMul_int (i j : Int) : pMul (.int i) (.int j) = if bMul i j then some (.int (i * j)) else none := rfl
@[simp] theorem pInt_int (i : Int) : pInt [.int i] = some (.int i) := rfl
@[simp] theorem pAbs_int (i : Int) : pAbs [.int i] = some (.int (if i < 0 then -i else i)) := rfl
@[simp] theorem pDivmod_int (i j : Int) : pDivmod [.int i, .int j] = if bDiv i j then some (.tup [.int (i / j), .int (i % j)]) else none := rfl
@[simp] theorem pLen_lst (xs : List P) : pLen [.lst xs] = some (.int xs.length) := rfl
@[simp] theorem pLen_scr (xs : List P) : pLen [.scr xs] = some (.int xs.length) := rfl
@[simp] theorem pLen_tup (xs : List P) : pLen [.tup xs] = some (.int xs.length) := rfl
@[simp] theorem pLen_str (x : List Nat) : pLen [.str x] = if x.length ≤ 100000 then some (.int x.length) else none := rfl
@[simp] theorem pTuple_lst (xs : List P) : pTuple [.lst xs] = some (.tup xs) := rfl
@[simp] theorem pTuple_tup (xs : List P) : pTuple [.tup xs] = some (.tup xs) := rfl
@[simp] theorem pList_lst (xs : List P) : pList [.lst xs] = some (.lst xs) := rfl
@[simp] theorem pIx_lst (xs : List P) (i : Int) : pIx (.lst xs) (.int i) = atI xs i := rfl
@[simp] theorem pIx_scr (xs : List P) (i : Int) : pIx (.scr xs) (.int i) = atI xs i := rfl
@[simp] theorem pIx_tup (xs : List P) (i : Int) : pIx (.tup xs) (.int i) = atI xs i := rfl
@[simp] theorem itemsP_lst (xs : List P) : itemsP (.lst xs) = some xs := rfl
@[simp] theorem itemsP_tup (xs : List P) : itemsP (.tup xs) = some xs := rfl
@[simp] theorem itemsP_str (x : List Nat) : itemsP (.str x) = some (x.map fun c => .str [c]) := rfl
theorem bMul_l {i j : Int} (h : -(2 ^ 64) < i) (h' : i < 2 ^ 64) : bMul i j = true := by
  unfold bMul
  rw [decide_eq_true h, decide_eq_true h']
  rfl
theorem bMul_r {i j : Int} (h : -(2 ^ 64) < j) (h' : j < 2 ^ 64) : bMul i j = true := by
  unfold bMul
  rw [decide_eq_true h, decide_eq_true h']
  simp
theorem bDiv_of {i j : Int} (h : 0 < j) (h' : j < 1073741824) : bDiv i j = true := by
  unfold bDiv
  rw [decide_eq_true h, decide_eq_true h']
  rfl
theorem bMod_of {i j : Int} (h : 0 < j) : bMod i j = true := decide_eq_true h
theorem atN {A : Type} {xs : List A} {i : Nat} {x : A} (h : xs[i]? = some x) : atI xs (i : Int) = some x := by
  have hl := (List.getElem?_eq_some_iff.mp h).1
  unfold atI ixN
  rw [if_pos (by omega), if_pos (by omega)]
  exact h
@[simp] theorem atI_0 {A : Type} (x : A) (xs : List A) : atI (x :: xs) 0 = some x := atN (i := 0) rfl
@[simp] theorem atI_1 {A : Type} (x y : A) (xs : List A) : atI (x :: y :: xs) 1 = some y := atN (i := 1) rfl
@[simp] theorem atI_2 {A : Type} (x y z : A) (xs : List A) : atI (x :: y :: z :: xs) 2 = some z := atN (i := 2) rfl
theorem get_set_self {S : Sto} {k : Nat} {c c' : Cell} (h : S[k]? = some c) : (S.set k c')[k]? = some c' := by
  rw [List.getElem?_set_self (List.getElem?_eq_some_iff.mp h).1]
theorem get_set_ne {S : Sto} {k j : Nat} {c' : Cell} (h : k ≠ j) : (S.set k c')[j]? = S[j]? := List.getElem?_set_ne h
theorem setV_lst {S : Sto} {k n : Nat} {xs : List P} {j : Int} {x : P} (h : S[k]? = some (.lst xs)) (hj : ixN xs.length j = some n) : setV (.c k) (.p (.int j)) (.p x) S = .ok () (S.set k (.lst (xs.set n x))) := by
  unfold setV
  dsimp only
  rw [h]
  dsimp only
  rw [frz_p, bind_ok, h]
  dsimp only
  rw [hj]
end Mir
namespace Mir
open L2
@[simp] theorem endF_p (n : Nat) (x : P) (S : Sto) : endF n (.ok (.rt (.p x)) S) = .ok (.p x) (S.take n) := rfl
@[simp] theorem endF_nx (n : Nat) (ρ : En) (S : Sto) : endF n (.ok (.nx ρ) S) = .ok (.p .non) (S.take n) := rfl
theorem take_len {S S' : Sto} (h : S'.length = S.length) : S'.take S.length = S' := List.take_of_length_le (by omega)
@[simp] theorem take_self (S : Sto) : S.take S.length = S := List.take_of_length_le (Nat.le_refl _)
@[simp] theorem take_app (S T : Sto) : (S ++ T).take S.length = S := by simp
theorem mkF_eq (n k : Nat) (b : MS) (ds : List Vl) (S : Sto) (h : ds.length = n) : mkF n k b ds S = endF S.length (b (ds.map some ++ List.replicate k none) S) := if_pos h
theorem forGo_cons (g : MG) (b : MS) (x : P) (xs : List P) (ρ : En) (S : Sto) : forGo g b (x :: xs) ρ S = ((g (.p x) ρ S).nox).go ρ fun ρ1 S1 => match b ρ1 S1 with
    | .ok (.nx ρ2) S2 => forGo g b xs ρ2 S2
    | .ok (.ct ρ2) S2 => forGo g b xs ρ2 S2
    | .ok (.bk ρ2) S2 => .ok (.nx ρ2) S2
    | .ok (.rt d) S2 => .ok (.rt d) S2
    | .ok (.xc ρ2 c x) S2 => .ok (.xc ρ2 c x) S2
    | .bad => .bad := rfl
theorem lcGo_pure {g : MG} {t : MT} {e : ME} {ρ : En} {S : Sto} (q : P → Bool) (f : P → P) : ∀ (xs : List P), (∀ x ∈ xs, ∃ ρ1, g (.p x) ρ S = .ok ρ1 S ∧ t ρ1 S = .ok (q x) S ∧ (q x = true → e ρ1 S = .ok (.p (f x)) S)) →
    lcGo g t e ρ xs S = .ok ((xs.filter q).map f) S
  | [], _ => rfl
  | x :: xs, h => by
    obtain ⟨ρ1, h1, h2, h3⟩ := h x List.mem_cons_self
    have ih := lcGo_pure q f xs fun y hy => h y (List.mem_cons_of_mem _ hy)
    unfold lcGo
    rw [h1, nox_ok, bind_ok, h2, nox_ok, bind_ok]
    cases hq : q x with
    | false =>
      dsimp only
      rw [ih, List.filter_cons_of_neg (by rw [hq]; decide)]
    | true =>
      dsimp only
      rw [h3 hq, nox_ok, bind_ok, frz_p, bind_ok, ih, bind_ok, List.filter_cons_of_pos hq]
      rfl
theorem eLc_pure {it : MI} {vs : List Nat} {g : MG} {t : MT} {e : ME} {ρ : En} {S S1 : Sto} {xs : List P} (q : P → Bool) (f : P → P) (hi : it ρ S = .ok xs S1) (hl : xs.length ≤ 100000)
    (h : ∀ x ∈ xs, ∃ ρ1, g (.p x) (wipeE ρ vs) S1 = .ok ρ1 S1 ∧ t ρ1 S1 = .ok (q x) S1 ∧ (q x = true → e ρ1 S1 = .ok (.p (f x)) S1)) : eLc it vs g t e ρ S = .ok (.p (.lst ((xs.filter q).map f))) S1 := by
  unfold eLc
  rw [hi, bind_ok, if_pos hl, lcGo_pure q f xs h, bind_ok]
theorem eLc_map {it : MI} {vs : List Nat} {g : MG} {e : ME} {ρ : En} {S S1 : Sto} {xs : List P} (f : P → P) (hi : it ρ S = .ok xs S1) (hl : xs.length ≤ 100000)
    (h : ∀ x ∈ xs, ∃ ρ1, g (.p x) (wipeE ρ vs) S1 = .ok ρ1 S1 ∧ e ρ1 S1 = .ok (.p (f x)) S1) : eLc it vs g tsYes e ρ S = .ok (.p (.lst (xs.map f))) S1 := by
  have := eLc_pure (t := tsYes) (e := e) (g := g) (vs := vs) (fun _ => true) f hi hl (fun x hx => by
    obtain ⟨ρ1, h1, h2⟩ := h x hx
    exact ⟨ρ1, h1, rfl, fun _ => h2⟩)
  rw [this, List.filter_eq_self.mpr (fun _ _ => rfl)]
end Mir
namespace Mir
open L2
theorem forGo_ix {g : MG} {b : MS} {A : Type} (f : A → P) (I : Nat → En → Sto → Prop) (ys : List A) : ∀ (k : Nat) (zs : List A) (ρ : En) (S : Sto), ys.drop k = zs → I k ρ S →
    (∀ i y ρ S, ys[i]? = some y → I i ρ S → ∃ ρ1 S1 ρ2 S2, g (.p (f y)) ρ S = .ok ρ1 S1 ∧ (b ρ1 S1 = .ok (.nx ρ2) S2 ∨ b ρ1 S1 = .ok (.ct ρ2) S2) ∧ I (i + 1) ρ2 S2) → ∃ ρ' S', forGo g b (zs.map f) ρ S = .ok (.nx ρ') S' ∧ I (k + zs.length) ρ' S'
  | k, [], ρ, S, _, h, _ => ⟨ρ, S, rfl, h⟩
  | k, y :: zs, ρ, S, hd, h, st => by
    have hy : ys[k]? = some y := by
      have := congrArg (fun l : List A => l[0]?) hd
      simpa using this
    have hd2 : ys.drop (k + 1) = zs := by
      rw [← List.drop_drop, hd]
      rfl
    obtain ⟨ρ1, S1, ρ2, S2, e1, e2, h2⟩ := st k y ρ S hy h
    obtain ⟨ρ', S', e3, h3⟩ := forGo_ix f I ys (k + 1) zs ρ2 S2 hd2 h2 st
    refine ⟨ρ', S', ?_, by rw [List.length_cons, show k + (zs.length + 1) = k + 1 + zs.length by omega]; exact h3⟩
    rw [List.map_cons, forGo_cons, e1, nox_ok, go_ok]
    rcases e2 with e2 | e2
    · rw [e2]; exact e3
    · rw [e2]; exact e3
theorem forGo_list {g : MG} {b : MS} {A : Type} (f : A → P) (I : Nat → En → Sto → Prop) (ys : List A) (ρ : En) (S : Sto) (h : I 0 ρ S)
    (st : ∀ i y ρ S, ys[i]? = some y → I i ρ S → ∃ ρ1 S1 ρ2 S2, g (.p (f y)) ρ S = .ok ρ1 S1 ∧ (b ρ1 S1 = .ok (.nx ρ2) S2 ∨ b ρ1 S1 = .ok (.ct ρ2) S2) ∧ I (i + 1) ρ2 S2) : ∃ ρ' S', forGo g b (ys.map f) ρ S = .ok (.nx ρ') S' ∧ I ys.length ρ' S' := by
  have := forGo_ix f I ys 0 ys ρ S rfl h st
  rwa [Nat.zero_add] at this
@[simp] theorem pEq_int (i j : Int) : pEq (.int i) (.int j) = some (.bl (i == j)) := rfl
@[simp] theorem pNe_int (i j : Int) : pNe (.int i) (.int j) = some (.bl (!(i == j))) := rfl
@[simp] theorem rangeP_length (lo : Int) (n : Nat) : (rangeP lo n).length = n := by
  unfold rangeP
  rw [List.length_map, List.length_range]
theorem rangeP_0 (n : Nat) : rangeP 0 n = (List.range n).map fun (k : Nat) => P.int (k : Int) := by
  unfold rangeP
  apply List.map_congr_left
  intro a _
  rw [Int.zero_add]
theorem ixV_lsv {S : Sto} {k : Nat} {xs : List Vl} {j : Int} {x : Vl} (h : S[k]? = some (.lsv xs)) (hx : atI xs j = some x) : ixV (.c k) (.p (.int j)) S = .ok x S := by
  unfold ixV
  dsimp only
  rw [h]
  dsimp only
  rw [hx]
theorem frz_lst {S : Sto} {k : Nat} {xs : List P} (h : S[k]? = some (.lst xs)) : frz (.c k) S = .ok (.lst xs) (S.set k (.fz (.lst xs))) := by
  unfold frz frzN
  dsimp only
  rw [h]
theorem frz_fz {S : Sto} {k : Nat} {x : P} (h : S[k]? = some (.fz x)) : frz (.c k) S = .ok x S := by
  unfold frz frzN
  dsimp only
  rw [h]
end Mir
namespace Mir
open L2
theorem itRange1_nat {a : ME} {ρ : En} {S S1 : Sto} {n : Nat} (h : a ρ S = .ok (.p (.int (n : Int))) S1) (hn : n < 1000000) : itRange1 a ρ S = .ok (rangeP 0 n) S1 := by
  have h1 : (n : Int) < 2 ^ 62 := Int.lt_of_lt_of_le (b := 1000000) (by omega) (by decide)
  have h2 : -(2 ^ 62) ≤ (n : Int) := Int.le_trans (b := 0) (by decide) (by omega)
  unfold itRange1
  rw [h, bind_ok]
  dsimp only
  rw [if_pos ⟨h1, h2⟩, Int.toNat_natCast]
end Mir
namespace Mir
open L2
theorem itRange2_nat {a b : ME} {ρ : En} {S S1 S2 : Sto} {m n : Nat} (h : a ρ S = .ok (.p (.int (m : Int))) S1) (h' : b ρ S1 = .ok (.p (.int (n : Int))) S2) (hm : m < 1000000) (hn : n < 1000000) : itRange2 a b ρ S = .ok (rangeP (m : Int) (n - m)) S2 := by
  have h1 : (n : Int) < 2 ^ 62 := Int.lt_of_lt_of_le (b := 1000000) (by omega) (by decide)
  have h2 : -(2 ^ 62) ≤ (n : Int) := Int.le_trans (b := 0) (by decide) (by omega)
  have h3 : (m : Int) < 2 ^ 62 := Int.lt_of_lt_of_le (b := 1000000) (by omega) (by decide)
  have h4 : -(2 ^ 62) ≤ (m : Int) := Int.le_trans (b := 0) (by decide) (by omega)
  unfold itRange2
  rw [h, bind_ok, h', bind_ok]
  dsimp only
  rw [if_pos ⟨⟨h4, h3⟩, ⟨h2, h1⟩⟩]
  have : ((n : Int) - (m : Int)).toNat = n - m := by omega
  rw [this]
theorem eCall1_of {g : List P → Option P} {a : ME} {ρ : En} {S S1 : Sto} {x z : P} (h : a ρ S = .ok (.p x) S1) (hg : g [x] = some z) : eCall g (aCons a aNil) ρ S = .ok (.p z) S1 := by
  unfold eCall aCons aNil
  rw [h, bind_ok, bind_ok, bind_ok]
  show (match rds S1 [.p x] with
    | some xs => ofO (g xs) S1
    | none => Res.bad) = _
  rw [rds_p, rds_nil]
  show ofO (g [x]) S1 = _
  rw [hg]
  rfl
end Mir
namespace Mir
open L2
theorem lcGo_gen {A : Type} {g : MG} {t : MT} {e : ME} {ρ : En} {S : Sto} (en : A → P) (q : A → Bool) (f : A → P) : ∀ (ys : List A), (∀ y ∈ ys, ∃ ρ1, g (.p (en y)) ρ S = .ok ρ1 S ∧ t ρ1 S = .ok (q y) S ∧ (q y = true → e ρ1 S = .ok (.p (f y)) S)) →
    lcGo g t e ρ (ys.map en) S = .ok ((ys.filter q).map f) S
  | [], _ => rfl
  | x :: xs, h => by
    obtain ⟨ρ1, h1, h2, h3⟩ := h x List.mem_cons_self
    have ih := lcGo_gen en q f xs fun y hy => h y (List.mem_cons_of_mem _ hy)
    rw [List.map_cons]
    unfold lcGo
    rw [h1, nox_ok, bind_ok, h2, nox_ok, bind_ok]
    cases hq : q x with
    | false =>
      dsimp only
      rw [ih, List.filter_cons_of_neg (by rw [hq]; decide)]
    | true =>
      dsimp only
      rw [h3 hq, nox_ok, bind_ok, frz_p, bind_ok, ih, bind_ok, List.filter_cons_of_pos hq]
      rfl
theorem eLc_gen {A : Type} {it : MI} {vs : List Nat} {g : MG} {t : MT} {e : ME} {ρ : En} {S S1 : Sto} (ys : List A) (en : A → P) (q : A → Bool) (f : A → P) (hi : it ρ S = .ok (ys.map en) S1) (hl : ys.length ≤ 100000)
    (h : ∀ y ∈ ys, ∃ ρ1, g (.p (en y)) (wipeE ρ vs) S1 = .ok ρ1 S1 ∧ t ρ1 S1 = .ok (q y) S1 ∧ (q y = true → e ρ1 S1 = .ok (.p (f y)) S1)) : eLc it vs g t e ρ S = .ok (.p (.lst ((ys.filter q).map f))) S1 := by
  unfold eLc
  rw [hi, bind_ok, if_pos (by rw [List.length_map]; exact hl), lcGo_gen en q f ys h, bind_ok]
theorem eLc_genm {A : Type} {it : MI} {vs : List Nat} {g : MG} {e : ME} {ρ : En} {S S1 : Sto} (ys : List A) (en f : A → P) (hi : it ρ S = .ok (ys.map en) S1) (hl : ys.length ≤ 100000)
    (h : ∀ y ∈ ys, ∃ ρ1, g (.p (en y)) (wipeE ρ vs) S1 = .ok ρ1 S1 ∧ e ρ1 S1 = .ok (.p (f y)) S1) : eLc it vs g tsYes e ρ S = .ok (.p (.lst (ys.map f))) S1 := by
  have := eLc_gen (t := tsYes) (e := e) (g := g) (vs := vs) ys en (fun _ => true) f hi hl (fun x hx => by
    obtain ⟨ρ1, h1, h2⟩ := h x hx
    exact ⟨ρ1, h1, rfl, fun _ => h2⟩)
  rw [this, List.filter_eq_self.mpr (fun _ _ => rfl)]
theorem enumP_eq (xs : List P) : enumP 0 xs = (List.range xs.length).map fun (i : Nat) => P.tup [.int (i : Int), xs.getD i .non] := by
  apply List.ext_getElem?
  intro i
  rw [enumP_get, List.getElem?_map]
  by_cases h : i < xs.length
  · rw [List.getElem?_range h, List.getElem?_eq_getElem h]
    simp [h]
  · rw [List.getElem?_eq_none (by omega), List.getElem?_eq_none (by rw [List.length_range]; omega)]
    rfl
theorem itEnum_p {a : ME} {ρ : En} {S S1 : Sto} {xs : List P} (h : a ρ S = .ok (.p (.lst xs)) S1) : itEnum a ρ S = .ok ((List.range xs.length).map fun (i : Nat) => P.tup [.int (i : Int), xs.getD i .non]) S1 := by
  unfold itEnum
  rw [h, bind_ok, frz_p, bind_ok]
  dsimp only
  rw [enumP_eq]
end Mir

namespace Mir
open L2 Pl
abbrev nums (l : List Nat) : List P := l.map fun (e : Nat) => P.int (e : Int)
@[simp] theorem ints_length (l : List Nat) : (nums l).length = l.length := List.length_map _
theorem rangeP_ints (n : Nat) : rangeP 0 n = nums (List.range n) := rangeP_0 n
theorem filter_ints (q : Nat → Bool) (p : P → Bool) (h : ∀ e : Nat, p (.int (e : Int)) = q e) (l : List Nat) : (nums l).filter p = nums (l.filter q) := by
  unfold nums
  rw [List.filter_map]
  congr 1
  apply List.filter_congr
  intro x _
  exact h x
end Mir

namespace Mir
open PySem L2
def andK (x : Bool) (r : Res Bool) (S : Sto) : Res Bool := match x with
  | true => r
  | false => .ok false S
def orK (x : Bool) (r : Res Bool) (S : Sto) : Res Bool := match x with
  | true => .ok true S
  | false => r
def eandK (x : Bool) (r : Res Vl) (S : Sto) : Res Vl := match x with
  | true => r
  | false => .ok (.p (.bl false)) S
def eorK (x : Bool) (r : Res Vl) (S : Sto) : Res Vl := match x with
  | true => .ok (.p (.bl true)) S
  | false => r
def ifK {A : Type} (x : Bool) (a b : A) : A := match x with
  | true => a
  | false => b
section
variable {ρ ρ1 ρ2 : En} {S S1 S2 S3 : Sto} {a b c : ME} {t u : MT} {m r : MA} {s s' : MS} {x y z w : P} {d e v : Vl} {ds es : List Vl} {xs ys : List P}
theorem ev_var {i : Nat} (h : ρ[i]? = some (some d)) : eVar i ρ S = .ok d S := by
  unfold eVar
  rw [h]
theorem ev_c : eC x ρ S = .ok (.p x) S := rfl
theorem ev_un {f : P → Option P} (ha : a ρ S = .ok d S1) (hd : rd S1 d = some x) (hf : f x = some z) : eUn f a ρ S = .ok (.p z) S1 := by
  rw [eUn_eq, ha, bind_ok, op1_rd hd, hf, ofO_some]
theorem ev_bin {f : P → P → Option P} (ha : a ρ S = .ok d S1) (hb : b ρ S1 = .ok e S2) (hd : rd S2 d = some x) (he : rd S2 e = some y) (hf : f x y = some z) : eBin f a b ρ S = .ok (.p z) S2 := by
  rw [eBin_eq, ha, bind_ok, hb, bind_ok, op2_rd hd he, hf, ofO_some]
theorem ev_item (ha : a ρ S = .ok d S1) (hb : b ρ S1 = .ok e S2) (hx : ixV (nv S2 d) e S2 = .ok v S2) : eItem a b ρ S = .ok v S2 := by
  rw [eItem_eq, ha, bind_ok, hb, bind_ok, hx]
theorem ixv_p (h : pIx x y = some z) : ixV (nv S (.p x)) (.p y) S = .ok (.p z) S := by
  rw [nv_p, ixV_p, op2_pp, h, ofO_some]
theorem ixv_l {k : Nat} {j : Int} (hk : S[k]? = some (.lst xs)) (h : atI xs j = some z) : ixV (nv S (.c k)) (.p (.int j)) S = .ok (.p z) S := by
  rw [nv_lst hk, ixV_lst hk, h, ofO_some]
theorem ixv_v {k : Nat} {j : Int} {vs : List Vl} (hk : S[k]? = some (.lsv vs)) (h : atI vs j = some v) : ixV (nv S (.c k)) (.p (.int j)) S = .ok v S := by
  rw [nv_lsv hk, ixV_lsv hk h]
theorem ixv_f {k : Nat} (hk : S[k]? = some (.fz x)) (h : pIx x y = some z) : ixV (nv S (.c k)) (.p y) S = .ok (.p z) S := by
  rw [nv_fz hk, ixV_p, op2_pp, h, ofO_some]
theorem rds_c (h : rd S d = some x) (h2 : rds S ds = some xs) : rds S (d :: ds) = some (x :: xs) := by
  rw [rds_rd h, h2]
  rfl
theorem ev_call {f : List P → Option P} (hm : m ρ S = .ok ds S1) (hr : rds S1 ds = some xs) (hf : f xs = some z) : eCall f m ρ S = .ok (.p z) S1 := by
  rw [eCall_eq, hm, bind_ok, call1_eq, hr]
  dsimp only
  rw [hf, ofO_some]
theorem ev_mth {T : String} {f : P → List P → Option P} (ha : a ρ S = .ok d S1) (hr : rd S1 d = some x) (ht : tyP T x = true) (hm : m ρ S1 = .ok ds S2) (hr2 : rd S2 d = some y) (hrs : rds S2 ds = some xs) (hf : f y xs = some z) : eMthT T f a m ρ S = .ok (.p z) S2 := by
  rw [eMthT_p, ha, bind_ok, hr]
  dsimp only
  rw [ht, if_pos rfl, hm, bind_ok, call1_eq, rds_c hr2 hrs]
  dsimp only
  rw [hf, ofO_some]
theorem ev_mut {g : Sto → Vl → Bool} {f : FM} (ha : a ρ S = .ok d S1) (hg : g S1 d = true) (hm : m ρ S1 = .ok ds S2) (hf : f d ds S2 = .ok v S3) : eMut g f a m ρ S = .ok v S3 := by
  rw [eMut_eq, ha, bind_ok, hg, if_pos rfl, hm, bind_ok, hf]
theorem ev_fn {f : MF} (hm : m ρ S = .ok ds S1) (hf : f ds S1 = .ok v S2) : eFn f m ρ S = .ok v S2 := by
  rw [eFn_eq, hm, bind_ok, hf]
theorem ev_fnK {f : MF} {n kl : Nat} {pm : List Nat} {zs as : List Vl} (hm : m ρ S = .ok ds S1) (hr : r ρ S1 = .ok zs S2) (h1 : ds.length = n) (h2 : zs.length = kl) (hp : permL (.p .non) pm (ds ++ zs) = as) (hf : f as S2 = .ok v S3) : eFnK f n kl pm m r ρ S = .ok v S3 := by
  unfold eFnK
  rw [hm, bind_ok, hr, bind_ok, if_pos ⟨h1, h2⟩, hp, hf]
theorem ev_meth {c f : PySem.Str} {g : MF} (ha : a ρ S = .ok d S1) (hg : isO c f S1 (nv S1 d) = true) (hm : m ρ S1 = .ok ds S2) (hf : g (d :: ds) S2 = .ok v S3) : eMeth c f g a m ρ S = .ok v S3 := by
  rw [eMeth_eq, ha, bind_ok, hg, if_pos rfl, hm, bind_ok, hf]
theorem ev_methK {c f : PySem.Str} {g : MF} {n kl : Nat} {pm : List Nat} {zs as : List Vl} (ha : a ρ S = .ok d S1) (hg : isO c f S1 (nv S1 d) = true) (hm : m ρ S1 = .ok ds S2) (hr : r ρ S2 = .ok zs S3) (h1 : ds.length = n) (h2 : zs.length = kl) {S4 : Sto}
    (hp : permL (.p .non) pm (d :: (ds ++ zs)) = as) (hf : g as S3 = .ok v S4) : eMethK c f g n kl pm a m r ρ S = .ok v S4 := by
  unfold eMethK
  rw [ha, bind_ok, hg, if_pos rfl, hm, bind_ok, hr, bind_ok, if_pos ⟨h1, h2⟩, ← List.cons_append] at *
  first
    | exact hf
    | (rw [hp]; exact hf)
    | (simp only [List.cons_append] at hp ⊢; rw [hp]; exact hf)
theorem ev_make {kp : Bool} {c : PySem.Str} {g : MF} (hm : m ρ S = .ok ds S1) (hf : mkO kp c g ds S1 = .ok v S2) : eMake kp c g m ρ S = .ok v S2 := by
  rw [eMake_eq, hm, bind_ok, hf]
theorem ev_fld {c f : PySem.Str} (ha : a ρ S = .ok d S1) (hf : fldV c f (nv S1 d) S1 = .ok v S1) : eFld c f a ρ S = .ok v S1 := by
  rw [eFld_eq, ha, bind_ok, hf]
theorem ev_prop {c : PySem.Str} {f : MF} (ha : a ρ S = .ok d S1) (hg : isC c S1 (nv S1 d) = true) (hf : f [d] S1 = .ok v S2) : eProp c f a ρ S = .ok v S2 := by
  rw [eProp_eq, ha, bind_ok, hg, if_pos rfl, hf, nox_ok]
theorem ev_isi {cs : List PySem.Str} {T : Tg} {q : Bool} (ha : a ρ S = .ok d S1) (hb : b ρ S1 = .ok (.p y) S2) (ht : tgOf S2 (nv S2 d) = some T) (hi : isT cs T y = some q) : eIsi cs a b ρ S = .ok (.p (.bl q)) S2 := by
  unfold eIsi
  rw [ha, bind_ok, hb, bind_ok, ht]
  dsimp only
  rw [hi]
theorem ev_anil : aNil ρ S = .ok [] S := rfl
theorem ev_acons (ha : a ρ S = .ok d S1) (hm : m ρ S1 = .ok ds S2) : aCons a m ρ S = .ok (d :: ds) S2 := by
  rw [aCons_eq, ha, bind_ok, hm, bind_ok]
theorem ev_tval {q : Bool} (ha : a ρ S = .ok (.p (.bl q)) S1) : tVal a ρ S = .ok q S1 := by
  rw [tVal_eq, ha, bind_ok, tst_bl]
theorem ev_tand {q q2 : Bool} (ht : t ρ S = .ok q S1) (hk : andK q (u ρ S1) S1 = .ok q2 S2) : tAndM t u ρ S = .ok q2 S2 := by
  rw [tAnd_eq, ht, bind_ok]
  exact hk
theorem ev_tor {q q2 : Bool} (ht : t ρ S = .ok q S1) (hk : orK q (u ρ S1) S1 = .ok q2 S2) : tOrM t u ρ S = .ok q2 S2 := by
  rw [tOr_eq, ht, bind_ok]
  exact hk
theorem ev_tnot {q q' : Bool} (ht : t ρ S = .ok q S1) (hq : (!q) = q') : tNotM t ρ S = .ok q' S1 := by
  rw [tNot_eq, ht, bind_ok, hq]
theorem ev_eand {q : Bool} (ha : a ρ S = .ok (.p (.bl q)) S1) (hk : eandK q (b ρ S1) S1 = .ok v S2) : eAndM a b ρ S = .ok v S2 := by
  rw [eAnd_eq, ha, bind_ok, tst_bl, bind_ok]
  exact hk
theorem ev_eor {q : Bool} (ha : a ρ S = .ok (.p (.bl q)) S1) (hk : eorK q (b ρ S1) S1 = .ok v S2) : eOrM a b ρ S = .ok v S2 := by
  rw [eOr_eq, ha, bind_ok, tst_bl, bind_ok]
  exact hk
theorem ev_enot {q q' : Bool} (ha : a ρ S = .ok (.p (.bl q)) S1) (hq : (!q) = q') : eNotM a ρ S = .ok (.p (.bl q')) S1 := by
  rw [eNot_eq, ha, bind_ok, tst_bl, bind_ok, hq]
theorem ev_if {q : Bool} (ht : t ρ S = .ok q S1) (hk : ifK q (a ρ S1) (b ρ S1) = .ok v S2) : eIfM t a b ρ S = .ok v S2 := by
  rw [eIf_eq, ht, bind_ok]
  exact hk
theorem ev_isN (ha : a ρ S = .ok d S1) {q : Bool} (h : isN d = q) : eIsN a ρ S = .ok (.p (.bl q)) S1 := by
  rw [eIsN_eq, ha, bind_ok, h]
theorem ev_notN (ha : a ρ S = .ok d S1) {q : Bool} (h : (!isN d) = q) : eNotN a ρ S = .ok (.p (.bl q)) S1 := by
  rw [eNotN_eq, ha, bind_ok, h]

theorem andK_f {r : Res Bool} : andK false r S = .ok false S := rfl
theorem andK_t {r o : Res Bool} (h : r = o) : andK true r S = o := h
theorem andK_s {q q2 : Bool} {r : Res Bool} (h : q = true → r = .ok q2 S) : andK q r S = .ok (q && q2) S := by
  cases q with
  | false => rfl
  | true => exact h rfl
theorem orK_t {r : Res Bool} : orK true r S = .ok true S := rfl
theorem orK_f {r o : Res Bool} (h : r = o) : orK false r S = o := h
theorem orK_s {q q2 : Bool} {r : Res Bool} (h : q = false → r = .ok q2 S) : orK q r S = .ok (q || q2) S := by
  cases q with
  | true => rfl
  | false => exact h rfl
theorem eandK_f {r : Res Vl} : eandK false r S = .ok (.p (.bl false)) S := rfl
theorem eandK_t {r o : Res Vl} (h : r = o) : eandK true r S = o := h
theorem eandK_s {q q2 : Bool} {r : Res Vl} (h : q = true → r = .ok (.p (.bl q2)) S) : eandK q r S = .ok (.p (.bl (q && q2))) S := by
  cases q with
  | false => rfl
  | true => exact h rfl
theorem eorK_t {r : Res Vl} : eorK true r S = .ok (.p (.bl true)) S := rfl
theorem eorK_f {r o : Res Vl} (h : r = o) : eorK false r S = o := h
theorem eorK_s {q q2 : Bool} {r : Res Vl} (h : q = false → r = .ok (.p (.bl q2)) S) : eorK q r S = .ok (.p (.bl (q || q2))) S := by
  cases q with
  | true => rfl
  | false => exact h rfl
theorem ifK_t {A : Type} {p q o : A} (h : p = o) : ifK true p q = o := h
theorem ifK_f {A : Type} {p q o : A} (h : q = o) : ifK false p q = o := h
theorem ifK_yes {A : Type} {x : Bool} {p q o : A} (hx : x = true) (h : p = o) : ifK x p q = o := by
  subst hx
  exact h
theorem ifK_no {A : Type} {x : Bool} {p q o : A} (hx : x = false) (h : q = o) : ifK x p q = o := by
  subst hx
  exact h
theorem ifK_s {q : Bool} {r r' : Res Vl} (h : q = true → r = .ok (.p x) S) (h' : q = false → r' = .ok (.p y) S) : ifK q r r' = .ok (.p (if q then x else y)) S := by
  cases q with
  | true => exact h rfl
  | false => exact h' rfl
theorem ifK_n {q : Bool} {i j : Nat} {r r' : Res Vl} (h : q = true → r = .ok (.p (.int (i : Int))) S) (h' : q = false → r' = .ok (.p (.int (j : Int))) S) : ifK q r r' = .ok (.p (.int ((if q then i else j : Nat) : Int))) S := by
  cases q with
  | true => exact h rfl
  | false => exact h' rfl
theorem ifK_i {q : Bool} {i j : Int} {r r' : Res Vl} (h : q = true → r = .ok (.p (.int i)) S) (h' : q = false → r' = .ok (.p (.int j)) S) : ifK q r r' = .ok (.p (.int (if q then i else j))) S := by
  cases q with
  | true => exact h rfl
  | false => exact h' rfl

theorem frzs_z : frzs [] S = .ok [] S := rfl
theorem frzs_s (h : frz d S = .ok x S1) (h2 : frzs ds S1 = .ok xs S2) : frzs (d :: ds) S = .ok (x :: xs) S2 := by
  rw [frzs_cons, h, bind_ok, h2, bind_ok]
theorem ev_tup (hm : m ρ S = .ok ds S1) (hf : frzs ds S1 = .ok xs S2) (hl : xs.length ≤ 100000) : eTup m ρ S = .ok (.p (.tup xs)) S2 := by
  rw [eTup_eq, hm, bind_ok, hf, bind_ok, if_pos hl]
theorem ev_lst (hm : m ρ S = .ok ds S1) (hf : frzs ds S1 = .ok xs S2) (hl : xs.length ≤ 100000) : eLst m ρ S = .ok (.p (.lst xs)) S2 := by
  rw [eLst_eq, hm, bind_ok, hf, bind_ok, if_pos hl]
theorem ev_lstC (hm : m ρ S = .ok ds S1) (hf : frzs ds S1 = .ok xs S2) (hl : xs.length ≤ 100000) : eLstC m ρ S = .ok (.c S2.length) (S2 ++ [.lst xs]) := by
  rw [eLstC_eq, hm, bind_ok, hf, bind_ok, if_pos hl]

theorem ev_sl {l h : En → Sto → Res (Option Int)} {lo hi : Option Int} (ha : a ρ S = .ok d S1) (hl : l ρ S1 = .ok lo S2) (hh : h ρ S2 = .ok hi S3) (hd : rd S3 d = some x) (hf : pSl lo hi x = some z) : eSl a l h ρ S = .ok (.p z) S3 := by
  rw [eSl_eq, ha, bind_ok, hl, bind_ok, hh, bind_ok, op1_rd hd, hf, ofO_some]
theorem ev_ono : oNo ρ S = .ok none S := rfl
theorem ev_oyes {i : Int} (ha : a ρ S = .ok (.p (.int i)) S1) : oYes a ρ S = .ok (some i) S1 := by
  rw [oYes_eq, ha, bind_ok, intV_int]

theorem ev_itOf (ha : a ρ S = .ok d S1) (hf : frz d S1 = .ok x S2) (hi : itemsP x = some xs) : itOf a ρ S = .ok xs S2 := by
  rw [itOf_eq, ha, bind_ok, hf, bind_ok, hi]
theorem ev_range1 {n : Nat} (ha : a ρ S = .ok (.p (.int (n : Int))) S1) (hn : n < 1000000) : itRange1 a ρ S = .ok ((List.range n).map fun (k : Nat) => P.int (k : Int)) S1 := by
  rw [itRange1_nat ha hn, rangeP_0]
theorem ev_range1i {i : Int} {n : Nat} (ha : a ρ S = .ok (.p (.int i)) S1) (hi : i = (n : Int)) (hn : n < 1000000) : itRange1 a ρ S = .ok ((List.range n).map fun (k : Nat) => P.int (k : Int)) S1 := by
  subst hi
  exact ev_range1 ha hn
theorem ev_enum_map {A : Type} {ys : List A} {f : A → P} [Inhabited A] (ha : a ρ S = .ok (.p (.lst (ys.map f))) S1) : itEnum a ρ S = .ok ((List.range ys.length).map fun (i : Nat) => P.tup [.int (i : Int), f (ys.getD i default)]) S1 := by
  rw [itEnum_p ha]
  congr 1
  rw [List.length_map]
  apply List.map_congr_left
  intro i hi
  have hi := List.mem_range.mp hi
  simp [hi]
theorem zipP_map {A B : Type} (f : A → P) (g : B → P) : ∀ (xs : List A) (ys : List B), zipP (xs.map f) (ys.map g) = (xs.zip ys).map fun q => P.tup [f q.1, g q.2]
  | [], _ => rfl
  | _ :: _, [] => rfl
  | x :: xs, y :: ys => by
    show _ :: zipP (xs.map f) (ys.map g) = _
    rw [zipP_map f g xs ys]
    rfl
theorem ev_zip {A B : Type} {f : A → P} {g : B → P} {us : List A} {ws : List B} (ha : a ρ S = .ok (.p (.lst (us.map f))) S1) (hb : b ρ S1 = .ok (.p (.lst (ws.map g))) S2) : itZip a b ρ S = .ok ((us.zip ws).map fun q => P.tup [f q.1, g q.2]) S2 := by
  unfold itZip
  rw [ha, bind_ok, hb, bind_ok]
  dsimp only
  rw [zipP_map]

theorem ev_lc {A : Type} {it : MI} {vs : List Nat} {g : MG} {ys : List A} {en f : A → P} {q : A → Bool} {ρ0 : En} {ρ1 : A → En} (hi : it ρ S = .ok (ys.map en) S1) (hl : ys.length ≤ 100000) (hw : wipeE ρ vs = ρ0)
    (hg : ∀ y, y ∈ ys → g (.p (en y)) ρ0 S1 = .ok (ρ1 y) S1) (ht : ∀ y, y ∈ ys → t (ρ1 y) S1 = .ok (q y) S1) (he : ∀ y, y ∈ ys → q y = true → a (ρ1 y) S1 = .ok (.p (f y)) S1) : eLc it vs g t a ρ S = .ok (.p (.lst ((ys.filter q).map f))) S1 := by
  subst hw
  exact eLc_gen ys en q f hi hl fun y hy => ⟨ρ1 y, hg y hy, ht y hy, he y hy⟩
theorem ev_lcm {A : Type} {it : MI} {vs : List Nat} {g : MG} {ys : List A} {en f : A → P} {ρ0 : En} {ρ1 : A → En} (hi : it ρ S = .ok (ys.map en) S1) (hl : ys.length ≤ 100000) (hw : wipeE ρ vs = ρ0)
    (hg : ∀ y, y ∈ ys → g (.p (en y)) ρ0 S1 = .ok (ρ1 y) S1) (he : ∀ y, y ∈ ys → a (ρ1 y) S1 = .ok (.p (f y)) S1) : eLc it vs g tsYes a ρ S = .ok (.p (.lst (ys.map f))) S1 := by
  subst hw
  exact eLc_genm ys en f hi hl fun y hy => ⟨ρ1 y, hg y hy, he y hy⟩
theorem ev_lcx {it : MI} {vs : List Nat} {g : MG} {ρ0 : En} (hi : it ρ S = .ok xs S1) (hl : xs.length ≤ 100000) (hw : wipeE ρ vs = ρ0) (hg : lcGo g t a ρ0 xs S1 = .ok ys S2) : eLc it vs g t a ρ S = .ok (.p (.lst ys)) S2 := by
  subst hw
  unfold eLc
  rw [hi, bind_ok, if_pos hl, hg, bind_ok]
theorem lcx_nil {g : MG} : lcGo g t a ρ [] S = .ok [] S := rfl
theorem lcx_yes {g : MG} {S4 : Sto} (hg : g (.p x) ρ S = .ok ρ1 S) (ha : a ρ1 S = .ok d S2) (hf : frz d S2 = .ok y S3) (hr : lcGo g tsYes a ρ xs S3 = .ok ys S4) : lcGo g tsYes a ρ (x :: xs) S = .ok (y :: ys) S4 := by
  unfold lcGo
  rw [hg, nox_ok, bind_ok]
  show ((Res.ok true S).nox.bind _) = _
  rw [nox_ok, bind_ok]
  dsimp only
  rw [ha, nox_ok, bind_ok, hf, bind_ok, hr, bind_ok]

theorem ev_gnm {i : Nat} (h : ρ.set i (some d) = ρ1) : gNm i d ρ S = .ok ρ1 S := by
  rw [gNm_eq, h]
theorem ev_gtp {n : Nat} {r : MGs} {vs : List Vl} (hl : xs.length = n) (hv : xs.map Vl.p = vs) (hr : r vs ρ S = .ok ρ1 S1) : gTp n r (.p (.tup xs)) ρ S = .ok ρ1 S1 := by
  rw [gTp_eq, if_pos hl, hv, hr]
theorem ev_gnl : gNl [] ρ S = .ok ρ S := rfl
theorem ev_gcn {g : MG} {r : MGs} (hg : g d ρ S = .ok ρ1 S1) (hr : r ds ρ1 S1 = .ok ρ2 S2) : gCn g r (d :: ds) ρ S = .ok ρ2 S2 := by
  rw [gCn_eq, hg, nox_ok, bind_ok, hr]
theorem ev_gsub {ρ' : En} (ha : a ρ S = .ok e S1) (hb : b ρ S1 = .ok v S2) (hs : setV e v d S2 = .ok () S3) : gSubM a b d ρ S = .ok ρ S3 := by
  rw [gSub_eq, ha, nox_ok, bind_ok, hb, nox_ok, bind_ok, hs, bind_ok]

theorem ev_pass : sPass ρ S = .ok (.nx ρ) S := rfl
theorem ev_expr (ha : a ρ S = .ok d S1) : sExpr a ρ S = .ok (.nx ρ) S1 := by
  rw [sExpr_eq, ha, go_ok]
theorem ev_ret (ha : a ρ S = .ok d S1) : sRet a ρ S = .ok (.rt d) S1 := by
  rw [sRet_eq, ha, go_ok]
theorem ev_retN : sRetN ρ S = .ok (.rt (.p .non)) S := rfl
theorem ev_seq {f : Fl} {o : RF} (h1 : s ρ S = .ok f S1) (h2 : (RF.ok f S1).thn s' = o) : sSeq s s' ρ S = o := by
  rw [sSeq_eq, h1, h2]
theorem thn_n {o : RF} (h : s ρ S = o) : (RF.ok (.nx ρ) S).thn s = o := h
theorem thn_r : (RF.ok (.rt d) S).thn s = .ok (.rt d) S := rfl
theorem ev_asg {g : MG} (ha : a ρ S = .ok d S1) (hg : g d ρ S1 = .ok ρ1 S2) : sAsg a g ρ S = .ok (.nx ρ1) S2 := by
  rw [sAsg_eq, ha, go_ok, hg, nox_ok, go_ok]
theorem ev_par {i j : Nat} (hm : m ρ S = .ok [d, e] S1) (h : (ρ.set i (some d)).set j (some e) = ρ1) : sPar i j m ρ S = .ok (.nx ρ1) S1 := by
  rw [sPar_eq, hm, go_ok]
  dsimp only
  rw [h]
theorem ev_par3 {i j l : Nat} (hm : m ρ S = .ok [d, e, v] S1) (h : ((ρ.set i (some d)).set j (some e)).set l (some v) = ρ1) : sPar3 i j l m ρ S = .ok (.nx ρ1) S1 := by
  rw [sPar3_eq, hm, go_ok]
  dsimp only
  rw [h]
theorem ev_parG {n : Nat} {g : MGs} (hm : m ρ S = .ok ds S1) (h1 : ds.length = n) (h2 : n ≤ 100000) (hg : g ds ρ S1 = .ok ρ1 S2) : sParG n m g ρ S = .ok (.nx ρ1) S2 := by
  rw [sParG_eq, hm, go_ok, if_pos ⟨h1, h2⟩, hg, nox_ok, go_ok]
theorem ev_sif {q : Bool} {o : RF} (ht : t ρ S = .ok q S1) (hk : ifK q (s ρ S1) (s' ρ S1) = o) : sIf t s s' ρ S = o := by
  rw [sIf_eq, ht, go_ok]
  exact hk

theorem ev_mkF {n k : Nat} {body : MS} {f : Fl} {o : Res Vl} (hl : ds.length = n) (hρ : ds.map some ++ List.replicate k none = ρ) (h : body ρ S = .ok f S1) (hr : endF S.length (.ok f S1) = o) : mkF n k body ds S = o := by
  rw [mkF_eq n k body ds S hl, hρ, h, hr]
theorem end_self : endF S.length (.ok (.rt (.p x)) S) = .ok (.p x) S := by
  rw [endF_p, take_self]
theorem end_nx : endF S.length (.ok (.nx ρ) S) = .ok (.p .non) S := by
  rw [endF_nx, take_self]
theorem end_app {T : Sto} : endF S.length (.ok (.rt (.p x)) (S ++ T)) = .ok (.p x) S := by
  rw [endF_p, take_app]
theorem end_nxa {T : Sto} : endF S.length (.ok (.nx ρ) (S ++ T)) = .ok (.p .non) S := by
  rw [endF_nx, take_app]

theorem cell0 {c : Cell} {T : Sto} : (S ++ (c :: T))[S.length]? = some c := by simp
theorem cell1 {c0 c : Cell} {T : Sto} : (S ++ (c0 :: c :: T))[S.length + 1]? = some c := by simp
theorem cell2 {c0 c1 c : Cell} {T : Sto} : (S ++ (c0 :: c1 :: c :: T))[S.length + 2]? = some c := by simp
end
end Mir

namespace Pl
def bitsN (l : List Nat) : Nat := (l.map fun a => 2 ^ a).sum
theorem test_add {a m : Nat} (h : m.testBit a = false) (i : Nat) : (m + 2 ^ a).testBit i = (m.testBit i || i == a) := by
  induction a generalizing m i with
  | zero =>
    rw [Nat.testBit_zero] at h
    have hm : m % 2 = 0 := by
      have := of_decide_eq_false h
      omega
    cases i with
    | zero =>
      rw [Nat.testBit_zero, Nat.testBit_zero]
      have e : (m + 2 ^ 0) % 2 = 1 := by simp; omega
      rw [e]
      simp
    | succ i =>
      rw [Nat.testBit_succ, Nat.testBit_succ]
      have e : (m + 2 ^ 0) / 2 = m / 2 := by simp; omega
      rw [e]
      simp
  | succ a ih =>
    rw [Nat.testBit_succ] at h
    cases i with
    | zero =>
      rw [Nat.testBit_zero, Nat.testBit_zero]
      have e : (m + 2 ^ (a + 1)) % 2 = m % 2 := by rw [Nat.pow_succ]; omega
      rw [e]
      simp
    | succ i =>
      rw [Nat.testBit_succ, Nat.testBit_succ]
      have e : (m + 2 ^ (a + 1)) / 2 = m / 2 + 2 ^ a := by rw [Nat.pow_succ]; omega
      rw [e, ih h]
      congr 1
      rw [Bool.eq_iff_iff]
      simp
theorem bits_test : ∀ {l : List Nat}, l.Nodup → ∀ i, (bitsN l).testBit i = l.contains i
  | [], _, i => by simp [bitsN]
  | a :: l, h, i => by
    rw [List.nodup_cons] at h
    have ih := bits_test h.2
    have e : bitsN (a :: l) = bitsN l + 2 ^ a := by
      show 2 ^ a + (l.map fun a => 2 ^ a).sum = _
      rw [Nat.add_comm]
      rfl
    rw [e, test_add (by rw [ih]; simpa using h.1), ih, List.contains_cons, Bool.or_comm]
theorem test_minus (i : Nat) : ∀ a b : Nat, (a - (a &&& b)).testBit i = (a.testBit i && !b.testBit i) := by
  induction i with
  | zero =>
    intro a b
    rw [Nat.testBit_zero, Nat.testBit_zero, Nat.testBit_zero]
    have h1 : (a &&& b) % 2 = (a % 2) * (b % 2) := by
      have := Nat.testBit_and a b 0
      rw [Nat.testBit_zero, Nat.testBit_zero, Nat.testBit_zero] at this
      rcases Nat.mod_two_eq_zero_or_one a with ha | ha <;> rcases Nat.mod_two_eq_zero_or_one b with hb | hb <;> rcases Nat.mod_two_eq_zero_or_one (a &&& b) with hx | hx <;> simp [ha, hb, hx] at this ⊢
    have h2 : a &&& b ≤ a := Nat.and_le_left
    rcases Nat.mod_two_eq_zero_or_one a with ha | ha <;> rcases Nat.mod_two_eq_zero_or_one b with hb | hb
    · have : (a - (a &&& b)) % 2 = 0 := by rw [ha, hb] at h1; omega
      simp [ha, hb, this]
    · have : (a - (a &&& b)) % 2 = 0 := by rw [ha, hb] at h1; omega
      simp [ha, hb, this]
    · have : (a - (a &&& b)) % 2 = 1 := by rw [ha, hb] at h1; omega
      simp [ha, hb, this]
    · have : (a - (a &&& b)) % 2 = 0 := by rw [ha, hb] at h1; omega
      simp [ha, hb, this]
  | succ i ih =>
    intro a b
    rw [Nat.testBit_succ, Nat.testBit_succ, Nat.testBit_succ, ← ih]
    congr 1
    have h1 : (a &&& b) / 2 = a / 2 &&& b / 2 := Nat.and_div_two
    have h2 : a / 2 &&& b / 2 ≤ a / 2 := Nat.and_le_left
    have h3 : (a &&& b) % 2 ≤ a % 2 := by
      have := Nat.testBit_and a b 0
      rw [Nat.testBit_zero, Nat.testBit_zero, Nat.testBit_zero] at this
      rcases Nat.mod_two_eq_zero_or_one a with ha | ha <;> rcases Nat.mod_two_eq_zero_or_one b with hb | hb <;> rcases Nat.mod_two_eq_zero_or_one (a &&& b) with hx | hx <;> simp [ha, hb, hx] at this ⊢
    omega
theorem bits_lt {l : List Nat} {n : Nat} (h : l.Nodup) (hl : ∀ e ∈ l, e < n) : bitsN l < 2 ^ n := by
  apply Nat.lt_pow_two_of_testBit
  intro i hi
  rw [bits_test h]
  simp
  intro z
  have := hl i z
  omega
theorem filter_range {p : Nat → Bool} {m n : Nat} (h : m ≤ n) (hp : ∀ i, m ≤ i → p i = false) : (List.range m).filter p = (List.range n).filter p := by
  obtain ⟨k, rfl⟩ := Nat.exists_eq_add_of_le h
  rw [List.range_add, List.filter_append]
  have : ((List.range k).map fun x => m + x).filter p = [] := by
    rw [List.filter_eq_nil_iff]
    intro a ha
    obtain ⟨b, _, rfl⟩ := List.mem_map.mp ha
    rw [hp _ (by omega)]
    decide
  rw [this, List.append_nil]
def mem_ (n b : Nat) : List Nat := (List.range n).filter fun i => b.testBit i
theorem sorted_eq : ∀ {l m : List Nat}, l.Pairwise (· < ·) → m.Pairwise (· < ·) → (∀ e, e ∈ l ↔ e ∈ m) → l = m
  | [], [], _, _, _ => rfl
  | [], b :: m, _, _, h => absurd ((h b).mpr List.mem_cons_self) (by simp)
  | a :: l, [], _, _, h => absurd ((h a).mp List.mem_cons_self) (by simp)
  | a :: l, b :: m, h1, h2, h => by
    rw [List.pairwise_cons] at h1 h2
    have hab : a = b := by
      have ha := (h a).mp List.mem_cons_self
      have hb := (h b).mpr List.mem_cons_self
      rcases List.mem_cons.mp ha with e | e
      · exact e
      · rcases List.mem_cons.mp hb with e2 | e2
        · exact e2.symm
        · have := h2.1 a e
          have := h1.1 b e2
          omega
    subst hab
    congr 1
    refine sorted_eq h1.2 h2.2 fun e => ?_
    constructor
    · intro he
      rcases List.mem_cons.mp ((h e).mp (List.mem_cons_of_mem _ he)) with z | z
      · subst z; have := h1.1 e he; omega
      · exact z
    · intro he
      rcases List.mem_cons.mp ((h e).mpr (List.mem_cons_of_mem _ he)) with z | z
      · subst z; have := h2.1 e he; omega
      · exact z
theorem range_sorted (n : Nat) : (List.range n).Pairwise (· < ·) := List.pairwise_lt_range
theorem mem_bits {l : List Nat} {n : Nat} (h : l.Pairwise (· < ·)) (hl : ∀ e ∈ l, e < n) : mem_ n (bitsN l) = l := by
  have nd : l.Nodup := h.imp fun z => Nat.ne_of_lt z
  refine sorted_eq ((range_sorted n).filter _) h fun e => ?_
  rw [mem_, List.mem_filter, List.mem_range]
  rw [bits_test nd]
  simp
  exact fun z => hl e z
end Pl
namespace Mir
open PySem L2 Pl
theorem band_nat (a b : Nat) : Builtin.bitAnd (a : Int) (b : Int) = ((a &&& b : Nat) : Int) := PySem.W.os_band a b
theorem band_not (a b : Nat) : Builtin.bitAnd (a : Int) (Builtin.bitNot (b : Int)) = ((a - (a &&& b) : Nat) : Int) := by
  unfold Builtin.bitAnd
  have h1 : decide ((0 : Int) ≤ (a : Int)) = true := decide_eq_true (by omega)
  have h2 : decide ((0 : Int) ≤ Builtin.bitNot (b : Int)) = false := decide_eq_false (by unfold Builtin.bitNot; omega)
  rw [h1, h2]
  dsimp only
  have h3 : (Builtin.bitNot (Builtin.bitNot (b : Int))).toNat = b := by unfold Builtin.bitNot; omega
  rw [h3, Int.toNat_natCast]
  have : a &&& b ≤ a := Nat.and_le_left
  omega
theorem shr_test (b i : Nat) : Builtin.bitAnd ((b : Int) / 2 ^ (i : Int).toNat) 1 = if b.testBit i then 1 else 0 := by
  rw [PyProof.Rows.bitAnd_m1, Int.toNat_natCast]
  have e : ((b : Int) / 2 ^ i) % 2 = ((b / 2 ^ i % 2 : Nat) : Int) := by simp
  rw [e, Nat.testBit_eq_decide_div_mod_eq]
  rcases Nat.mod_two_eq_zero_or_one (b / 2 ^ i) with h | h <;> simp [h]
end Mir

namespace Mir
open PySem L2 Pl
section
variable {i j : Int} {a b n : Nat} {x y : List Nat} {xs ys : List P} {p q : P}
theorem op_addN : pAdd (.int (a : Int)) (.int (b : Int)) = some (.int ((a + b : Nat) : Int)) := by
  rw [pAdd_int, Int.natCast_add]
theorem op_addN1 : pAdd (.int (a : Int)) (.int 1) = some (.int ((a + 1 : Nat) : Int)) := rfl
theorem op_add1N : pAdd (.int 1) (.int (a : Int)) = some (.int ((1 + a : Nat) : Int)) := by
  rw [pAdd_int, Int.natCast_add]
  rfl
theorem op_add : pAdd (.int i) (.int j) = some (.int (i + j)) := rfl
theorem op_addS (h : x.length + y.length ≤ 100000) : pAdd (.str x) (.str y) = some (.str (x ++ y)) := by
  rw [pAdd_str, if_pos h]
theorem op_addL (h : xs.length + ys.length ≤ 100000) : pAdd (.lst xs) (.lst ys) = some (.lst (xs ++ ys)) := by
  rw [pAdd_lst, if_pos h]
theorem op_addT (h : xs.length + ys.length ≤ 100000) : pAdd (.tup xs) (.tup ys) = some (.tup (xs ++ ys)) := by
  rw [pAdd_tup, if_pos h]
theorem op_addLm {A : Type} {us ws : List A} {f : A → P} (h : us.length + ws.length ≤ 100000) : pAdd (.lst (us.map f)) (.lst (ws.map f)) = some (.lst ((us ++ ws).map f)) := by
  rw [op_addL (by rw [List.length_map, List.length_map]; exact h), List.map_append]
theorem op_addTm {A : Type} {us ws : List A} {f : A → P} (h : us.length + ws.length ≤ 100000) : pAdd (.tup (us.map f)) (.tup (ws.map f)) = some (.tup ((us ++ ws).map f)) := by
  rw [op_addT (by rw [List.length_map, List.length_map]; exact h), List.map_append]
theorem op_pI {g : Int → Int → Int} : pI g (.int i) (.int j) = some (.int (g i j)) := rfl
theorem op_pIB {g : Int → Int → Bool} : pIB g (.int i) (.int j) = some (.bl (g i j)) := rfl
theorem op_band : pI (fun i j => Builtin.bitAnd i j) (.int (a : Int)) (.int (b : Int)) = some (.int ((a &&& b : Nat) : Int)) := by
  rw [pI_int, band_nat]
theorem op_bandnot : pI (fun i j => Builtin.bitAnd i j) (.int (a : Int)) (.int (Builtin.bitNot (b : Int))) = some (.int ((a - (a &&& b) : Nat) : Int)) := by
  rw [pI_int, band_not]
theorem op_inv : pInv (.int i) = some (.int (Builtin.bitNot i)) := rfl
theorem op_shl (h : a ≤ 1000) : pIC bPow (fun i j => i * 2 ^ j.toNat) (.int 1) (.int (a : Int)) = some (.int ((2 ^ a : Nat) : Int)) := by
  have h1 : bPow 1 (a : Int) = true := by
    unfold bPow
    rw [decide_eq_true (show (0 : Int) ≤ (a : Int) by omega), decide_eq_true (show (a : Int) ≤ 1000000 by omega)]
    rfl
  rw [pIC_int, h1, if_pos rfl, Int.toNat_natCast, Int.one_mul]
  congr 2
theorem op_shr : pIC bShr (fun i j => i / 2 ^ j.toNat) (.int (a : Int)) (.int (b : Int)) = some (.int ((a / 2 ^ b : Nat) : Int)) := by
  have h1 : bShr (a : Int) (b : Int) = true := decide_eq_true (by omega)
  rw [pIC_int, h1, if_pos rfl, Int.toNat_natCast]
  simp
theorem op_and1 : pI (fun i j => Builtin.bitAnd i j) (.int ((a / 2 ^ b : Nat) : Int)) (.int 1) = some (.int (((a.testBit b).toNat : Nat) : Int)) := by
  rw [pI_int]
  have := shr_test a b
  rw [Int.toNat_natCast] at this
  have e : ((a / 2 ^ b : Nat) : Int) = (a : Int) / 2 ^ b := by simp
  rw [e, this]
  cases a.testBit b <;> rfl
theorem op_eqB1 {t : Bool} : pEq (.int ((t.toNat : Nat) : Int)) (.int 1) = some (.bl t) := by cases t <;> rfl
theorem op_eqB0 {t : Bool} : pEq (.int ((t.toNat : Nat) : Int)) (.int 0) = some (.bl (!t)) := by cases t <;> rfl
theorem op_eqN : pEq (.int (a : Int)) (.int (b : Int)) = some (.bl (a == b)) := by
  rw [pEq_int]
  congr 2
  rw [Bool.eq_iff_iff, beq_iff_eq, beq_iff_eq]
  omega
theorem op_neN : pNe (.int (a : Int)) (.int (b : Int)) = some (.bl (!(a == b))) := by
  rw [pNe_int]
  congr 3
  rw [Bool.eq_iff_iff, beq_iff_eq, beq_iff_eq]
  omega
theorem op_eqN0 : pEq (.int (a : Int)) (.int 0) = some (.bl (a == 0)) := op_eqN (b := 0)
theorem op_neN0 : pNe (.int (a : Int)) (.int 0) = some (.bl (!(a == 0))) := op_neN (b := 0)
theorem op_eqI : pEq (.int i) (.int j) = some (.bl (i == j)) := rfl
theorem op_neI : pNe (.int i) (.int j) = some (.bl (!(i == j))) := rfl
theorem op_ltN : pIB (fun i j => decide (i < j)) (.int (a : Int)) (.int (b : Int)) = some (.bl (decide (a < b))) := by
  rw [pIB_int]
  congr 2
  rw [Bool.eq_iff_iff, decide_eq_true_eq, decide_eq_true_eq]
  omega
theorem op_leN : pIB (fun i j => decide (i ≤ j)) (.int (a : Int)) (.int (b : Int)) = some (.bl (decide (a ≤ b))) := by
  rw [pIB_int]
  congr 2
  rw [Bool.eq_iff_iff, decide_eq_true_eq, decide_eq_true_eq]
  omega
theorem op_gtN : pIB (fun i j => decide (j < i)) (.int (a : Int)) (.int (b : Int)) = some (.bl (decide (b < a))) := by
  rw [pIB_int]
  congr 2
  rw [Bool.eq_iff_iff, decide_eq_true_eq, decide_eq_true_eq]
  omega
theorem op_geN : pIB (fun i j => decide (j ≤ i)) (.int (a : Int)) (.int (b : Int)) = some (.bl (decide (b ≤ a))) := by
  rw [pIB_int]
  congr 2
  rw [Bool.eq_iff_iff, decide_eq_true_eq, decide_eq_true_eq]
  omega
theorem op_eqD (h : p.dat 60 = true) (h2 : q.dat 60 = true) : pEq p q = some (.bl (p.eqv q)) := by
  unfold pEq
  rw [h, h2]
  rfl
theorem op_neD (h : p.dat 60 = true) (h2 : q.dat 60 = true) : pNe p q = some (.bl (!p.eqv q)) := by
  unfold pNe
  rw [h, h2]
  rfl
def asc (x : List Nat) : Bool := x.all fun c => decide (c < 128)
theorem op_eqS (h : asc x = true) (h2 : asc y = true) : pEq (.str x) (.str y) = some (.bl (x == y)) := op_eqD (p := .str x) (q := .str y) h h2
theorem op_neS (h : asc x = true) (h2 : asc y = true) : pNe (.str x) (.str y) = some (.bl (!(x == y))) := op_neD (p := .str x) (q := .str y) h h2
theorem eqvL_txt : ∀ {l m : List (List Nat)}, eqvL (l.map P.str) (m.map P.str) = (l == m)
  | [], [] => rfl
  | [], _ :: _ => rfl
  | _ :: _, [] => rfl
  | a :: l, b :: m => by
    show (a == b && eqvL (l.map P.str) (m.map P.str)) = _
    rw [eqvL_txt]
    rfl
theorem eqvL_num : ∀ {l m : List Nat}, eqvL (l.map fun (e : Nat) => P.int (e : Int)) (m.map fun (e : Nat) => P.int (e : Int)) = (l == m)
  | [], [] => rfl
  | [], _ :: _ => rfl
  | _ :: _, [] => rfl
  | a :: l, b :: m => by
    show ((a : Int) == (b : Int) && eqvL (l.map fun (e : Nat) => P.int (e : Int)) (m.map fun (e : Nat) => P.int (e : Int))) = _
    rw [eqvL_num, List.cons_beq_cons]
    congr 1
    rw [Bool.eq_iff_iff, beq_iff_eq, beq_iff_eq]
    omega
theorem datL_of {A : Type} {f : A → P} {m : Nat} : ∀ {l : List A}, (∀ x ∈ l, (f x).dat m = true) → datL (l.map f) m = true
  | [], _ => rfl
  | a :: l, h => by
    show ((f a).dat m && datL (l.map f) m) = true
    rw [h a List.mem_cons_self, datL_of fun x hx => h x (List.mem_cons_of_mem _ hx)]
    rfl
theorem op_eqTS {l m : List (List Nat)} (h : ∀ x ∈ l, asc x = true) (h2 : ∀ x ∈ m, asc x = true) : pEq (.tup (l.map P.str)) (.tup (m.map P.str)) = some (.bl (l == m)) := by
  rw [op_eqD (p := .tup (l.map P.str)) (q := .tup (m.map P.str)) (datL_of h) (datL_of h2)]
  show some (P.bl (eqvL _ _)) = _
  rw [eqvL_txt]
theorem op_neTS {l m : List (List Nat)} (h : ∀ x ∈ l, asc x = true) (h2 : ∀ x ∈ m, asc x = true) : pNe (.tup (l.map P.str)) (.tup (m.map P.str)) = some (.bl (!(l == m))) := by
  rw [op_neD (p := .tup (l.map P.str)) (q := .tup (m.map P.str)) (datL_of h) (datL_of h2)]
  show some (P.bl (!eqvL _ _)) = _
  rw [eqvL_txt]
theorem eqvL_nil {l : List P} : eqvL l [] = l.isEmpty := by cases l <;> rfl
theorem op_neL0 {A : Type} {l : List A} {f : A → P} (h : ∀ x ∈ l, (f x).dat 59 = true) : pNe (.lst (l.map f)) (.lst []) = some (.bl (!l.isEmpty)) := by
  rw [op_neD (p := .lst (l.map f)) (q := .lst []) (datL_of h) rfl]
  show some (P.bl (!eqvL _ [])) = _
  rw [eqvL_nil]
  cases l <;> rfl
theorem op_eqL0 {A : Type} {l : List A} {f : A → P} (h : ∀ x ∈ l, (f x).dat 59 = true) : pEq (.lst (l.map f)) (.lst []) = some (.bl l.isEmpty) := by
  rw [op_eqD (p := .lst (l.map f)) (q := .lst []) (datL_of h) rfl]
  show some (P.bl (eqvL _ [])) = _
  rw [eqvL_nil]
  cases l <;> rfl
theorem op_neT0 {A : Type} {l : List A} {f : A → P} (h : ∀ x ∈ l, (f x).dat 59 = true) : pNe (.tup (l.map f)) (.tup []) = some (.bl (!l.isEmpty)) := by
  rw [op_neD (p := .tup (l.map f)) (q := .tup []) (datL_of h) rfl]
  show some (P.bl (!eqvL _ [])) = _
  rw [eqvL_nil]
  cases l <;> rfl
theorem op_eqT0 {A : Type} {l : List A} {f : A → P} (h : ∀ x ∈ l, (f x).dat 59 = true) : pEq (.tup (l.map f)) (.tup []) = some (.bl l.isEmpty) := by
  rw [op_eqD (p := .tup (l.map f)) (q := .tup []) (datL_of h) rfl]
  show some (P.bl (eqvL _ [])) = _
  rw [eqvL_nil]
  cases l <;> rfl

theorem flat_map {A : Type} {l : List A} {f : A → P} (h : ∀ x, flatP (f x) = true) : (l.map f).all flatP = true := by
  rw [List.all_map, List.all_eq_true]
  exact fun x _ => h x
theorem inP_strs {A : Type} {l : List A} {f : A → List Nat} : inP (.str x) (l.map fun z => P.str (f z)) = (l.map f).contains x := by
  induction l with
  | nil => rfl
  | cons z l ih =>
    show ((f z == x) || inP (.str x) (l.map fun z => P.str (f z))) = _
    rw [ih, List.map_cons, List.contains_cons]
    congr 1
    rw [Bool.eq_iff_iff, beq_iff_eq, beq_iff_eq]
    exact eq_comm
theorem inP_ns {A : Type} {l : List A} {f : A → Nat} : inP (.int (a : Int)) (l.map fun z => P.int ((f z : Nat) : Int)) = (l.map f).contains a := by
  induction l with
  | nil => rfl
  | cons z l ih =>
    show (((f z : Nat) : Int) == (a : Int) || inP (.int (a : Int)) (l.map fun z => P.int ((f z : Nat) : Int))) = _
    rw [ih, List.map_cons, List.contains_cons]
    congr 1
    rw [Bool.eq_iff_iff, beq_iff_eq, beq_iff_eq]
    omega
theorem pIn2_of {p q : P} {t : Bool} (h : pIn p q = some (.bl t)) : pIn2 p q = some (.bl t) := by
  unfold pIn2
  rw [h]
theorem pNotIn2_of {p q : P} {t : Bool} (h : pIn p q = some (.bl t)) : pNotIn2 p q = some (.bl (!t)) := by
  unfold pNotIn2 pNotIn
  rw [h]
theorem pin_l {p : P} {xs : List P} (h : flatP p = true) (h2 : xs.all flatP = true) : pIn p (.lst xs) = some (.bl (inP p xs)) := by
  unfold pIn
  dsimp only
  rw [h, h2]
  rfl
theorem pin_t {p : P} {xs : List P} (h : flatP p = true) (h2 : xs.all flatP = true) : pIn p (.tup xs) = some (.bl (inP p xs)) := by
  unfold pIn
  dsimp only
  rw [h, h2]
  rfl
section
variable {A : Type} {l : List A} {f : A → List Nat} {g : A → Nat}
theorem op_inSL : pIn2 (.str x) (.lst (l.map fun z => P.str (f z))) = some (.bl ((l.map f).contains x)) := pIn2_of ((pin_l rfl (flat_map fun _ => rfl)).trans (by rw [inP_strs]))
theorem op_inST : pIn2 (.str x) (.tup (l.map fun z => P.str (f z))) = some (.bl ((l.map f).contains x)) := pIn2_of ((pin_t rfl (flat_map fun _ => rfl)).trans (by rw [inP_strs]))
theorem op_inNL : pIn2 (.int (a : Int)) (.lst (l.map fun z => P.int ((g z : Nat) : Int))) = some (.bl ((l.map g).contains a)) := pIn2_of ((pin_l rfl (flat_map fun _ => rfl)).trans (by rw [inP_ns]))
theorem op_niSL : pNotIn2 (.str x) (.lst (l.map fun z => P.str (f z))) = some (.bl (!(l.map f).contains x)) := pNotIn2_of ((pin_l rfl (flat_map fun _ => rfl)).trans (by rw [inP_strs]))
theorem op_niST : pNotIn2 (.str x) (.tup (l.map fun z => P.str (f z))) = some (.bl (!(l.map f).contains x)) := pNotIn2_of ((pin_t rfl (flat_map fun _ => rfl)).trans (by rw [inP_strs]))
theorem op_niNL : pNotIn2 (.int (a : Int)) (.lst (l.map fun z => P.int ((g z : Nat) : Int))) = some (.bl (!(l.map g).contains a)) := pNotIn2_of ((pin_l rfl (flat_map fun _ => rfl)).trans (by rw [inP_ns]))
end
theorem op_inSL' {l : List (List Nat)} : pIn2 (.str x) (.lst (l.map P.str)) = some (.bl (l.contains x)) := by
  have := op_inSL (x := x) (l := l) (f := id)
  rw [List.map_id] at this
  exact this
theorem op_inST' {l : List (List Nat)} : pIn2 (.str x) (.tup (l.map P.str)) = some (.bl (l.contains x)) := by
  have := op_inST (x := x) (l := l) (f := id)
  rw [List.map_id] at this
  exact this
theorem op_inNL' {l : List Nat} : pIn2 (.int (a : Int)) (.lst (l.map fun (z : Nat) => P.int (z : Int))) = some (.bl (l.contains a)) := by
  have := op_inNL (a := a) (l := l) (g := id)
  rw [List.map_id] at this
  exact this
theorem op_niSL' {l : List (List Nat)} : pNotIn2 (.str x) (.lst (l.map P.str)) = some (.bl (!l.contains x)) := by
  have := op_niSL (x := x) (l := l) (f := id)
  rw [List.map_id] at this
  exact this
theorem op_niST' {l : List (List Nat)} : pNotIn2 (.str x) (.tup (l.map P.str)) = some (.bl (!l.contains x)) := by
  have := op_niST (x := x) (l := l) (f := id)
  rw [List.map_id] at this
  exact this
theorem op_niNL' {l : List Nat} : pNotIn2 (.int (a : Int)) (.lst (l.map fun (z : Nat) => P.int (z : Int))) = some (.bl (!l.contains a)) := by
  have := op_niNL (a := a) (l := l) (g := id)
  rw [List.map_id] at this
  exact this

theorem op_lenL : pLen [.lst xs] = some (.int ((xs.length : Nat) : Int)) := rfl
theorem op_lenT : pLen [.tup xs] = some (.int ((xs.length : Nat) : Int)) := rfl
theorem op_lenLm {A : Type} {l : List A} {f : A → P} : pLen [.lst (l.map f)] = some (.int ((l.length : Nat) : Int)) := by
  rw [op_lenL, List.length_map]
theorem op_lenTm {A : Type} {l : List A} {f : A → P} : pLen [.tup (l.map f)] = some (.int ((l.length : Nat) : Int)) := by
  rw [op_lenT, List.length_map]
theorem op_lenS (h : x.length ≤ 100000) : pLen [.str x] = some (.int ((x.length : Nat) : Int)) := by
  rw [pLen_str, if_pos h]
theorem op_tupL : pTuple [.lst xs] = some (.tup xs) := rfl
theorem op_tupT : pTuple [.tup xs] = some (.tup xs) := rfl
theorem op_lstL : pList [.lst xs] = some (.lst xs) := rfl
theorem op_lstT : pList [.tup xs] = some (.lst xs) := rfl
theorem intsOf_m {A : Type} {l : List A} {f : A → Int} : intsOf (l.map fun z => P.int (f z)) = some (l.map f) := by
  induction l with
  | nil => rfl
  | cons a l ih =>
    show (intsOf (l.map fun z => P.int (f z))).map (f a :: ·) = _
    rw [ih]
    rfl
theorem blsOf_m {A : Type} {l : List A} {f : A → Bool} : blsOf (l.map fun z => P.bl (f z)) = some (l.map f) := by
  induction l with
  | nil => rfl
  | cons a l ih =>
    show (blsOf (l.map fun z => P.bl (f z))).map (f a :: ·) = _
    rw [ih]
    rfl
theorem sum_natm {A : Type} (l : List A) (f : A → Nat) : (l.map fun z => ((f z : Nat) : Int)).sum = (((l.map f).sum : Nat) : Int) := by
  induction l with
  | nil => rfl
  | cons a l ih =>
    rw [List.map_cons, List.sum_cons, ih, List.map_cons, List.sum_cons]
    omega
theorem op_sum {A : Type} {l : List A} {f : A → Nat} : pSum [.lst (l.map fun z => P.int ((f z : Nat) : Int))] = some (.int (((l.map f).sum : Nat) : Int)) := by
  show (intsOf (l.map fun z => P.int ((f z : Nat) : Int))).map _ = _
  rw [intsOf_m (f := fun z => ((f z : Nat) : Int))]
  show some (P.int _) = _
  rw [sum_natm]
theorem op_all {A : Type} {l : List A} {f : A → Bool} : pAll [.lst (l.map fun z => P.bl (f z))] = some (.bl (l.all f)) := by
  show (blsOf (l.map fun z => P.bl (f z))).map _ = _
  rw [blsOf_m]
  show some (P.bl ((l.map f).all id)) = _
  rw [List.all_map]
  rfl
theorem op_any {A : Type} {l : List A} {f : A → Bool} : pAny [.lst (l.map fun z => P.bl (f z))] = some (.bl (l.any f)) := by
  show (blsOf (l.map fun z => P.bl (f z))).map _ = _
  rw [blsOf_m]
  show some (P.bl ((l.map f).any id)) = _
  rw [List.any_map]
  rfl

theorem at_m0 {A : Type} {l : List A} {f : A → P} [Inhabited A] (h : a < l.length) : atI (l.map f) (a : Int) = some (f (l.getD a default)) := by
  refine atN ?_
  rw [List.getElem?_map, List.getElem?_eq_getElem h]
  simp [h]
theorem at_ms {A : Type} {l : List (List A)} {f : List A → P} (h : a < l.length) : atI (l.map f) (a : Int) = some (f (l.getD a [])) := at_m0 h
theorem at_mn {l : List Nat} {f : Nat → P} (h : a < l.length) : atI (l.map f) (a : Int) = some (f (l.getD a 0)) := at_m0 h
theorem ix_ls {A : Type} {l : List (List A)} {f : List A → P} (h : a < l.length) : pIx (.lst (l.map f)) (.int (a : Int)) = some (f (l.getD a [])) := at_ms h
theorem ix_ln {l : List Nat} {f : Nat → P} (h : a < l.length) : pIx (.lst (l.map f)) (.int (a : Int)) = some (f (l.getD a 0)) := at_mn h
theorem ix_lm {A : Type} {l : List A} {f : A → P} [Inhabited A] (h : a < l.length) : pIx (.lst (l.map f)) (.int (a : Int)) = some (f (l.getD a default)) := at_m0 h
theorem ix_ts {A : Type} {l : List (List A)} {f : List A → P} (h : a < l.length) : pIx (.tup (l.map f)) (.int (a : Int)) = some (f (l.getD a [])) := at_ms h
theorem ix_l0 : pIx (.lst (p :: xs)) (.int 0) = some p := atI_0 _ _
theorem ix_l1 {p2 : P} : pIx (.lst (p :: p2 :: xs)) (.int 1) = some p2 := atI_1 _ _ _
theorem ix_l2 {p2 p3 : P} : pIx (.lst (p :: p2 :: p3 :: xs)) (.int 2) = some p3 := atI_2 _ _ _ _
theorem atI_3 {A : Type} (x y z w : A) (xs : List A) : atI (x :: y :: z :: w :: xs) 3 = some w := atN (i := 3) rfl
theorem ix_l3 {p2 p3 p4 : P} : pIx (.lst (p :: p2 :: p3 :: p4 :: xs)) (.int 3) = some p4 := atI_3 _ _ _ _ _
theorem ix_t0 : pIx (.tup (p :: xs)) (.int 0) = some p := atI_0 _ _
theorem ix_t1 {p2 : P} : pIx (.tup (p :: p2 :: xs)) (.int 1) = some p2 := atI_1 _ _ _
theorem ix_t2 {p2 p3 : P} : pIx (.tup (p :: p2 :: p3 :: xs)) (.int 2) = some p3 := atI_2 _ _ _ _
theorem ix_t3 {p2 p3 p4 : P} : pIx (.tup (p :: p2 :: p3 :: p4 :: xs)) (.int 3) = some p4 := atI_3 _ _ _ _ _
theorem fr_p {S : Sto} : frz (.p p) S = .ok p S := frz_p _ _
end
mutual
theorem P.eqv_self : ∀ (x : P) (m : Nat), x.dat m = true → x.eqv x = true
  | .non, _, _ => rfl
  | .bl b, _, _ => by show (b == b) = true; simp
  | .int i, _, _ => by show (i == i) = true; simp
  | .str x, _, _ => by show (x == x) = true; simp
  | .lst xs, 0, h => by cases h
  | .lst xs, m + 1, h => eqvL_self xs m h
  | .tup xs, 0, h => by cases h
  | .tup xs, m + 1, h => eqvL_self xs m h
  | .dct _ _, _, h => by cases h
  | .obj _ _ _, _, h => by cases h
  | .ty _, _, h => by cases h
  | .glo _, _, h => by cases h
  | .raw _, _, h => by cases h
  | .rwp _ _, _, h => by cases h
  | .scr _, _, h => by cases h
theorem eqvL_self : ∀ (xs : List P) (m : Nat), datL xs m = true → eqvL xs xs = true
  | [], _, _ => rfl
  | x :: xs, m, h => by
    have h : (x.dat m && datL xs m) = true := h
    rw [Bool.and_eq_true] at h
    show (x.eqv x && eqvL xs xs) = true
    rw [P.eqv_self x m h.1, eqvL_self xs m h.2]
    rfl
end
theorem op_eqX {x : P} (h : x.dat 60 = true) : pEq x x = some (.bl true) := by
  rw [op_eqD h h, P.eqv_self x 60 h]
theorem op_neX {x : P} (h : x.dat 60 = true) : pNe x x = some (.bl false) := by
  rw [op_neD h h, P.eqv_self x 60 h]
  rfl
end Mir

namespace Mir
open PySem L2
def WS (r : RF) (Q : Fl → Sto → Prop) : Prop := ∃ f S, r = .ok f S ∧ Q f S
section
variable {ρ ρ1 ρ2 : En} {S S1 S2 S3 : Sto} {a b c : ME} {t u : MT} {m r : MA} {s s' : MS} {x y z w : P} {d e v : Vl} {ds es : List Vl} {xs ys : List P} {Q : Fl → Sto → Prop}
theorem ws_of {f : Fl} (h : s ρ S = .ok f S1) (q : Q f S1) : WS (s ρ S) Q := ⟨f, S1, h, q⟩
theorem ws_seq (h : s ρ S = .ok (.nx ρ1) S1) (q : WS (s' ρ1 S1) Q) : WS (sSeq s s' ρ S) Q := by
  obtain ⟨f, S2, e, q⟩ := q
  exact ⟨f, S2, ev_seq h (thn_n e), q⟩
theorem ws_seqW (h : WS (s ρ S) fun f S1 => ∃ ρ1, f = .nx ρ1 ∧ WS (s' ρ1 S1) Q) : WS (sSeq s s' ρ S) Q := by
  obtain ⟨f, S1, e1, ρ1, rfl, f, S2, e, q⟩ := h
  exact ⟨f, S2, ev_seq e1 (thn_n e), q⟩
theorem ws_mono {R : Fl → Sto → Prop} (h : WS (s ρ S) R) (k : ∀ f S, R f S → Q f S) : WS (s ρ S) Q := by
  obtain ⟨f, S2, e, q⟩ := h
  exact ⟨f, S2, e, k _ _ q⟩
theorem ws_for {it : MI} {g : MG} (I : Nat → En → Sto → Prop) (hi : it ρ S = .ok xs S1) (h0 : I 0 ρ S1)
    (hs : ∀ i x ρ S, xs[i]? = some x → I i ρ S → ∃ ρ1 S1, g (.p x) ρ S = .ok ρ1 S1 ∧ WS (s ρ1 S1) fun f S2 => ∃ ρ2, (f = .nx ρ2 ∨ f = .ct ρ2) ∧ I (i + 1) ρ2 S2)
    (hq : ∀ ρ' S', I xs.length ρ' S' → Q (.nx ρ') S') : WS (sFor it g s ρ S) Q := by
  have key : ∀ (zs : List P) (k : Nat) (ρ : En) (S : Sto), xs.drop k = zs → I k ρ S → ∃ ρ' S', forGo g s zs ρ S = .ok (.nx ρ') S' ∧ I (k + zs.length) ρ' S' := by
    intro zs
    induction zs with
    | nil => exact fun k ρ S _ h => ⟨ρ, S, rfl, h⟩
    | cons z zs ih =>
      intro k ρ S hd h
      have hz : xs[k]? = some z := by
        have := congrArg (fun l : List P => l[0]?) hd
        simpa using this
      have hd2 : xs.drop (k + 1) = zs := by
        rw [← List.drop_drop, hd]
        rfl
      obtain ⟨ρ1, S1, e1, f, S2, e2, ρ2, e3, h2⟩ := hs k z ρ S hz h
      obtain ⟨ρ', S', e4, h4⟩ := ih (k + 1) ρ2 S2 hd2 h2
      refine ⟨ρ', S', ?_, by rw [List.length_cons, show k + (zs.length + 1) = k + 1 + zs.length by omega]; exact h4⟩
      rw [forGo_cons, e1, nox_ok, go_ok, e2]
      rcases e3 with rfl | rfl <;> exact e4
  obtain ⟨ρ', S', e, h⟩ := key xs 0 ρ S1 rfl h0
  rw [Nat.zero_add] at h
  exact ⟨.nx ρ', S', by rw [sFor_eq, hi, go_ok, e], hq ρ' S' h⟩
theorem ws_forM {A : Type} {it : MI} {g : MG} {us : List A} {en : A → P} (I : Nat → En → Sto → Prop) (hi : it ρ S = .ok (us.map en) S1) (h0 : I 0 ρ S1)
    (hs : ∀ i u ρ S, us[i]? = some u → I i ρ S → ∃ ρ1 S1, g (.p (en u)) ρ S = .ok ρ1 S1 ∧ WS (s ρ1 S1) fun f S2 => ∃ ρ2, (f = .nx ρ2 ∨ f = .ct ρ2) ∧ I (i + 1) ρ2 S2)
    (hq : ∀ ρ' S', I us.length ρ' S' → Q (.nx ρ') S') : WS (sFor it g s ρ S) Q := by
  refine ws_for I hi h0 (fun i x ρ S hx hI => ?_) fun ρ' S' h => hq ρ' S' (by rw [List.length_map] at h; exact h)
  rw [List.getElem?_map] at hx
  cases hu : us[i]? with
  | none => rw [hu] at hx; cases hx
  | some u =>
    rw [hu] at hx
    cases hx
    exact hs i u ρ S hu hI
theorem ws_rng {it : MI} {g : MG} {n : Nat} (I : Nat → En → Sto → Prop) (hi : it ρ S = .ok ((List.range n).map fun (k : Nat) => P.int (k : Int)) S1) (h0 : I 0 ρ S1)
    (hs : ∀ i ρ S, i < n → I i ρ S → ∃ ρ1 S1, g (.p (.int (i : Int))) ρ S = .ok ρ1 S1 ∧ WS (s ρ1 S1) fun f S2 => ∃ ρ2, (f = .nx ρ2 ∨ f = .ct ρ2) ∧ I (i + 1) ρ2 S2)
    (hq : ∀ ρ' S', I n ρ' S' → Q (.nx ρ') S') : WS (sFor it g s ρ S) Q := by
  refine ws_forM I hi h0 (fun i u ρ S hu hI => ?_) fun ρ' S' h => hq ρ' S' (by rw [List.length_range] at h; exact h)
  have hin : i < n := by
    have := (List.getElem?_eq_some_iff.mp hu).1
    rwa [List.length_range] at this
  rw [List.getElem?_range hin] at hu
  cases hu
  exact hs i ρ S hin hI
theorem ws_mkF {n k : Nat} {body : MS} {R : Vl → Sto → Prop} (hl : ds.length = n) (hρ : ds.map some ++ List.replicate k none = ρ) (h : WS (body ρ S) fun f S1 => ∃ v S', endF S.length (.ok f S1) = .ok v S' ∧ R v S') : ∃ v S', mkF n k body ds S = .ok v S' ∧ R v S' := by
  obtain ⟨f, S1, e, v, S', e2, r⟩ := h
  exact ⟨v, S', ev_mkF hl hρ e e2, r⟩
theorem ws_mkFe {n k : Nat} {body : MS} {o : Res Vl} (hl : ds.length = n) (hρ : ds.map some ++ List.replicate k none = ρ) (h : WS (body ρ S) fun f S1 => endF S.length (.ok f S1) = o) : mkF n k body ds S = o := by
  obtain ⟨f, S1, e, e2⟩ := h
  exact ev_mkF hl hρ e e2
end
end Mir

namespace Mir
open PySem L2
section
variable {ρ ρ0 ρ1 ρ2 : En} {S S1 S2 S3 : Sto} {a b c : ME} {t u : MT} {m r : MA} {s s' : MS} {x y z w : P} {d e v : Vl} {ds es : List Vl} {xs ys : List P}
theorem rng_1 : itRange1 (eC (.int 1)) ρ S = .ok [.int 0] S := rfl
theorem rng_2 : itRange1 (eC (.int 2)) ρ S = .ok [.int 0, .int 1] S := rfl
theorem rng_3 : itRange1 (eC (.int 3)) ρ S = .ok [.int 0, .int 1, .int 2] S := rfl
theorem rng_4 : itRange1 (eC (.int 4)) ρ S = .ok [.int 0, .int 1, .int 2, .int 3] S := rfl
theorem rng_5 : itRange1 (eC (.int 5)) ρ S = .ok [.int 0, .int 1, .int 2, .int 3, .int 4] S := rfl
theorem rng_6 : itRange1 (eC (.int 6)) ρ S = .ok [.int 0, .int 1, .int 2, .int 3, .int 4, .int 5] S := rfl
theorem rng_8 : itRange1 (eC (.int 8)) ρ S = .ok [.int 0, .int 1, .int 2, .int 3, .int 4, .int 5, .int 6, .int 7] S := rfl
theorem lcx_s {g : MG} {q : Bool} (hg : g (.p x) ρ S = .ok ρ1 S) (ht : t ρ1 S = .ok q S) (ha : q = true → a ρ1 S = .ok (.p y) S) (hr : lcGo g t a ρ xs S = .ok ys S) : lcGo g t a ρ (x :: xs) S = .ok ((if q then [y] else []) ++ ys) S := by
  cases q with
  | false =>
    unfold lcGo
    rw [hg, nox_ok, bind_ok, ht, nox_ok, bind_ok]
    exact hr
  | true =>
    unfold lcGo
    rw [hg, nox_ok, bind_ok, ht, nox_ok, bind_ok]
    dsimp only
    rw [ha rfl, nox_ok, bind_ok, frz_p, bind_ok, hr, bind_ok]
    rfl

theorem ev_forx {it : MI} {g : MG} {o : RF} (hi : it ρ S = .ok xs S1) (hg : forGo g s xs ρ S1 = o) : sFor it g s ρ S = o := by
  rw [sFor_eq, hi, go_ok, hg]
theorem forx_nil {g : MG} : forGo g s [] ρ S = .ok (.nx ρ) S := rfl
theorem forx_cons {g : MG} {o : RF} (hg : g (.p x) ρ S = .ok ρ1 S1) (hs : s ρ1 S1 = .ok (.nx ρ2) S2) (hr : forGo g s xs ρ2 S2 = o) : forGo g s (x :: xs) ρ S = o := by
  rw [forGo_cons, hg, nox_ok, go_ok, hs]
  exact hr
theorem ev_enumN {ls : List Nat} {f : Nat → P} (ha : a ρ S = .ok (.p (.lst (ls.map f))) S1) : itEnum a ρ S = .ok ((List.range ls.length).map fun (i : Nat) => P.tup [.int (i : Int), f (ls.getD i 0)]) S1 := ev_enum_map ha
theorem ev_enumS {B : Type} {ls : List (List B)} {f : List B → P} (ha : a ρ S = .ok (.p (.lst (ls.map f))) S1) : itEnum a ρ S = .ok ((List.range ls.length).map fun (i : Nat) => P.tup [.int (i : Int), f (ls.getD i [])]) S1 := ev_enum_map ha
theorem isi_t {cs : List PySem.Str} {T : Tg} (h : isT cs T y = some true) : isT cs T y = some true := h
theorem isi_f {cs : List PySem.Str} {T : Tg} (h : isT cs T y = some false) : isT cs T y = some false := h

theorem lcGo2_gen {A B : Type} {g : MG} {it1 : MI} {vs1 : List Nat} {g1 : MG} {t1 : MT} {en : A → P} {q : A → Bool} {ρ1 : A → En} {us : A → List B} {en1 : A → B → P} {ρ1' : A → En} {ρ2 : A → B → En} {q1 : A → B → Bool} {f : A → B → P} : ∀ (ls : List A),
    (∀ y ∈ ls, g (.p (en y)) ρ0 S = .ok (ρ1 y) S) → (∀ y ∈ ls, t (ρ1 y) S = .ok (q y) S) → (∀ y ∈ ls, q y = true → it1 (ρ1 y) S = .ok ((us y).map (en1 y)) S) → (∀ y ∈ ls, q y = true → (us y).length ≤ 4000) → (∀ y ∈ ls, wipeE (ρ1 y) vs1 = ρ1' y) →
    (∀ y ∈ ls, q y = true → ∀ z ∈ us y, g1 (.p (en1 y z)) (ρ1' y) S = .ok (ρ2 y z) S) → (∀ y ∈ ls, q y = true → ∀ z ∈ us y, t1 (ρ2 y z) S = .ok (q1 y z) S) → (∀ y ∈ ls, q y = true → ∀ z ∈ us y, q1 y z = true → a (ρ2 y z) S = .ok (.p (f y z)) S) →
    lcGo2 g t it1 vs1 g1 t1 a ρ0 (ls.map en) S = .ok ((ls.filter q).flatMap fun y => ((us y).filter (q1 y)).map (f y)) S
  | [], _, _, _, _, _, _, _, _ => rfl
  | y :: ls, h1, h2, h3, h4, h5, h6, h7, h8 => by
    have m0 : y ∈ y :: ls := List.mem_cons_self
    have ih := lcGo2_gen ls (fun z hz => h1 z (List.mem_cons_of_mem _ hz)) (fun z hz => h2 z (List.mem_cons_of_mem _ hz)) (fun z hz => h3 z (List.mem_cons_of_mem _ hz)) (fun z hz => h4 z (List.mem_cons_of_mem _ hz)) (fun z hz => h5 z (List.mem_cons_of_mem _ hz)) (fun z hz => h6 z (List.mem_cons_of_mem _ hz)) (fun z hz => h7 z (List.mem_cons_of_mem _ hz)) (fun z hz => h8 z (List.mem_cons_of_mem _ hz))
    rw [List.map_cons]
    unfold lcGo2
    rw [h1 y m0, nox_ok, bind_ok, h2 y m0, nox_ok, bind_ok]
    cases hq : q y with
    | false =>
      dsimp only
      rw [ih, List.filter_cons_of_neg (by rw [hq]; decide)]
    | true =>
      dsimp only
      rw [h3 y m0 hq, nox_ok, bind_ok, if_pos (by rw [List.length_map]; exact h4 y m0 hq), h5 y m0]
      rw [lcGo_gen (en1 y) (q1 y) (f y) (us y) fun z hz => ⟨ρ2 y z, h6 y m0 hq z hz, h7 y m0 hq z hz, h8 y m0 hq z hz⟩, bind_ok, ih, bind_ok, List.filter_cons_of_pos hq, List.flatMap_cons]
theorem ev_lc2 {A B : Type} {it : MI} {vs : List Nat} {g : MG} {it1 : MI} {vs1 : List Nat} {g1 : MG} {ls : List A} {en : A → P} {ρ1 : A → En} {us : A → List B} {en1 : A → B → P} {ρ1' : A → En} {ρ2 : A → B → En} {f : A → B → P} (hi : it ρ S = .ok (ls.map en) S1) (hl : ls.length ≤ 4000) (hw : wipeE ρ vs = ρ0)
    (hg : ∀ y, y ∈ ls → g (.p (en y)) ρ0 S1 = .ok (ρ1 y) S1) (hi1 : ∀ y, y ∈ ls → it1 (ρ1 y) S1 = .ok ((us y).map (en1 y)) S1) (hl1 : ∀ y, y ∈ ls → (us y).length ≤ 4000) (hw1 : ∀ y, y ∈ ls → wipeE (ρ1 y) vs1 = ρ1' y)
    (hg1 : ∀ y, y ∈ ls → ∀ z, z ∈ us y → g1 (.p (en1 y z)) (ρ1' y) S1 = .ok (ρ2 y z) S1) (he : ∀ y, y ∈ ls → ∀ z, z ∈ us y → a (ρ2 y z) S1 = .ok (.p (f y z)) S1) :
    eLc2 it vs g tsYes it1 vs1 g1 tsYes a ρ S = .ok (.p (.lst (ls.flatMap fun y => (us y).map (f y)))) S1 := by
  subst hw
  unfold eLc2
  rw [hi, bind_ok, if_pos (by rw [List.length_map]; exact hl)]
  have := lcGo2_gen (a := a) (t := tsYes) (t1 := tsYes) (q := fun _ => true) (q1 := fun _ _ => true) (it1 := it1) (vs1 := vs1) ls (fun y hy => hg y hy) (fun y hy => rfl) (fun y hy _ => hi1 y hy) (fun y hy _ => hl1 y hy) hw1 (fun y hy _ z hz => hg1 y hy z hz) (fun y hy _ z hz => rfl) (fun y hy _ z hz _ => he y hy z hz)
  rw [this, bind_ok]
  have e1 : ls.filter (fun _ => true) = ls := List.filter_eq_self.mpr fun _ _ => rfl
  have e2 : ∀ y, (us y).filter (fun _ => true) = us y := fun y => List.filter_eq_self.mpr fun _ _ => rfl
  simp only [e1, e2]
end
section
variable {p q : Bool} {x : P} {a : Nat} {xs : List P}
theorem op_eqB : pEq (.bl p) (.bl q) = some (.bl (p == q)) := rfl
theorem op_neB : pNe (.bl p) (.bl q) = some (.bl (!(p == q))) := rfl
theorem op_niB {A : Type} {l : List A} {f : A → Bool} : pNotIn2 (.bl false) (.lst (l.map fun z => P.bl (f z))) = some (.bl (l.all f)) := by
  have h : ∀ l : List A, inP (.bl false) (l.map fun z => P.bl (f z)) = !(l.all f) := by
    intro l
    induction l with
    | nil => rfl
    | cons z l ih =>
      show ((f z == false) || inP (.bl false) (l.map fun z => P.bl (f z))) = _
      rw [ih, List.all_cons]
      cases f z <;> rfl
  rw [pNotIn2_of (t := !(l.all f)) ((pin_l rfl (flat_map fun _ => rfl)).trans (by rw [h])), Bool.not_not]
theorem op_all2 {A B : Type} {l : List A} {us : A → List B} {f : A → B → Bool} : pAll [.lst (l.flatMap fun y => (us y).map fun z => P.bl (f y z))] = some (.bl (l.all fun y => (us y).all (f y))) := by
  have e : (l.flatMap fun y => (us y).map fun z => P.bl (f y z)) = (l.flatMap fun y => (us y).map (f y)).map P.bl := by
    rw [List.map_flatMap]
    simp [List.map_map, Function.comp_def]
  rw [e]
  have := op_all (l := l.flatMap fun y => (us y).map (f y)) (f := fun b => b)
  rw [this]
  congr 2
  rw [List.all_flatMap]
  simp [List.all_map, Function.comp_def]
theorem ix_l4 {p1 p2 p3 p4 p5 : P} : pIx (.lst (p1 :: p2 :: p3 :: p4 :: p5 :: xs)) (.int 4) = some p5 := atN (i := 4) rfl
theorem ix_l5 {p1 p2 p3 p4 p5 p6 : P} : pIx (.lst (p1 :: p2 :: p3 :: p4 :: p5 :: p6 :: xs)) (.int 5) = some p6 := atN (i := 5) rfl
theorem eqc_t {x y : P} (h : pEq x y = some (.bl true)) : pEq x y = some (.bl true) := h
theorem eqc_f {x y : P} (h : pEq x y = some (.bl false)) : pEq x y = some (.bl false) := h
theorem nec_t {x y : P} (h : pNe x y = some (.bl true)) : pNe x y = some (.bl true) := h
theorem nec_f {x y : P} (h : pNe x y = some (.bl false)) : pNe x y = some (.bl false) := h
theorem inc_t {x y : P} (h : pIn2 x y = some (.bl true)) : pIn2 x y = some (.bl true) := h
theorem inc_f {x y : P} (h : pIn2 x y = some (.bl false)) : pIn2 x y = some (.bl false) := h
theorem nic_t {x y : P} (h : pNotIn2 x y = some (.bl true)) : pNotIn2 x y = some (.bl true) := h
theorem nic_f {x y : P} (h : pNotIn2 x y = some (.bl false)) : pNotIn2 x y = some (.bl false) := h
theorem op_is {a b : Bool} : pIs (.bl a) (.bl b) = some (.bl (decide (a = b))) := rfl
theorem op_isNot {a b : Bool} : pIsNot (.bl a) (.bl b) = some (.bl (!decide (a = b))) := rfl
theorem ev_rgL {ρ : En} {S S1 : Sto} {m : ME} {n : Nat} (h : m ρ S = .ok (.p (.int (n : Int))) S1) (hn : n ≤ 100000) : eRgL m ρ S = .ok (.p (.lst ((List.range n).map fun (k : Nat) => P.int (k : Int)))) S1 := by
  unfold eRgL
  rw [h, bind_ok]
  dsimp only
  rw [if_pos ⟨by omega, by omega⟩, Int.toNat_natCast, rangeP_0]
end
end Mir

namespace Mir
open PySem L2
section
variable {a b : Nat} {x p : P} {xs : List P} {i : Int}
theorem op_sub1 (h : 1 ≤ a) : pI (fun i j => i - j) (.int (a : Int)) (.int 1) = some (.int ((a - 1 : Nat) : Int)) := by
  rw [pI_int]
  congr 2
  omega
theorem op_subN (h : b ≤ a) : pI (fun i j => i - j) (.int (a : Int)) (.int (b : Int)) = some (.int ((a - b : Nat) : Int)) := by
  rw [pI_int]
  congr 2
  omega
theorem op_modN (h : 0 < b) : pIC bMod (fun i j => i % j) (.int (a : Int)) (.int (b : Int)) = some (.int ((a % b : Nat) : Int)) := by
  have : bMod (a : Int) (b : Int) = true := bMod_of (by omega)
  rw [pIC_int, this, if_pos rfl, Int.natCast_emod]
theorem op_int : pInt [.int i] = some (.int i) := rfl
theorem op_neg1 : pNeg (.int 1) = some (.int (-1)) := rfl
theorem op_neg : pNeg (.int i) = some (.int (-i)) := rfl
theorem op_mul2 : pMul (.lst [x]) (.int 2) = some (.lst [x, x]) := rfl
theorem op_eqL1 {l : List Nat} : pEq (.lst (l.map fun (e : Nat) => P.int (e : Int))) (.lst [.int (a : Int)]) = some (.bl (l == [a])) := by
  rw [op_eqD (p := .lst (l.map fun (e : Nat) => P.int (e : Int))) (q := .lst [.int (a : Int)]) (datL_of fun _ _ => rfl) rfl]
  show some (P.bl (eqvL (l.map fun (e : Nat) => P.int (e : Int)) ([a].map fun (e : Nat) => P.int (e : Int)))) = _
  rw [eqvL_num]
theorem cutP_init {A : Type} (l : List A) : cutP l none (some (-1)) = l.dropLast := by
  unfold cutP
  have e0 : HT.sIx l.length 0 none = 0 := rfl
  have e1 : HT.sIx l.length l.length (some (-1)) = l.length - 1 := by
    unfold HT.sIx
    simp
    omega
  rw [e0, e1, List.drop_zero, Nat.sub_zero, List.dropLast_eq_take]
theorem op_init {A : Type} {l : List A} {f : A → P} : pSl none (some (-1)) (.lst (l.map f)) = some (.lst ((l.dropLast).map f)) := by
  show some (P.lst (cutP (l.map f) none (some (-1)))) = _
  rw [cutP_init, List.map_dropLast]
end
end Mir

namespace Mir
open PySem L2
mutual
def P.sz : P → Nat
  | .non => 4
  | .bl _ => 5
  | .int i => (Str.ofString (toString i)).length
  | .str x => 10 * x.length + 2
  | .lst xs => szL xs + 4
  | .tup xs => szL xs + 4
  | _ => 4
def szL : List P → Nat
  | [] => 0
  | x :: xs => x.sz + 2 + szL xs
end
theorem join_len (s : Str) : ∀ ts : List Str, (s.join ts).length ≤ (ts.map fun t => t.length + s.length).sum
  | [] => by
    rw [Str.join.eq_1]
    exact Nat.zero_le _
  | [t] => by
    rw [Str.join.eq_2]
    simp
  | t :: u :: r => by
    have ih := join_len s (u :: r)
    rw [Str.join.eq_3]
    · rw [List.map_cons, List.sum_cons]
      simp only [Str.length_append]
      omega
    all_goals simp
theorem listText_le (ts : List Str) : (listText ts).length ≤ (ts.map fun t => t.length + 2).sum + 4 := by
  have h := join_len (Str.ofString ", ") ts
  have e : (Str.ofString ", ").length = 2 := by decide
  have e1 : (Str.ofString "[").length = 1 := by decide
  have e2 : (Str.ofString "]").length = 1 := by decide
  rw [listText_eq_join]
  simp only [Str.length_append, e, e1, e2] at h ⊢
  omega
theorem tupleText_le (ts : List Str) : (tupleText ts).length ≤ (ts.map fun t => t.length + 2).sum + 4 := by
  have h := join_len (Str.ofString ", ") ts
  have e : (Str.ofString ", ").length = 2 := by decide
  have e1 : (Str.ofString "(").length = 1 := by decide
  have e2 : (Str.ofString (if (ts.length == 1) = true then ",)" else ")")).length ≤ 2 := by
    split <;> decide
  unfold tupleText
  simp only [Str.length_append, e, e1] at h ⊢
  omega
mutual
theorem shown_len : ∀ (x : P) (m : Nat), x.dat m = true → x.toD.shown.length ≤ x.sz
  | .non, m, _ => by show (Str.ofString "None").length ≤ 4; decide
  | .bl b, m, _ => by
    show (if b = true then Str.ofString "True" else Str.ofString "False").length ≤ 5
    cases b <;> decide
  | .int i, m, _ => by
    show (PyData.int i).shown.length ≤ _
    rw [PyData.shown.eq_3]
    exact Nat.le_refl _
  | .str x, m, h => by
    have h : (x.all fun c => decide (c < 128)) = true := h
    show (PyData.str (strOf x)).shown.length ≤ 10 * x.length + 2
    rw [PyData.shown.eq_4]
    have := StrLaws.reprText_len (strOf x) fun c hc => by
      have hc : c ∈ x := by simpa [strOf] using hc
      have := of_decide_eq_true (List.all_eq_true.mp h c hc)
      exact Nat.lt_of_lt_of_le this (by decide)
    have e : (strOf x).length = x.length := by simp [strOf, Str.length]
    rw [e] at this
    exact this
  | .lst xs, 0, h => by cases h
  | .lst xs, m + 1, h => by
    show (PyData.list (toDL xs)).shown.length ≤ szL xs + 4
    rw [PyData.shown.eq_5]
    have := listText_le (PyData.shownAll (toDL xs))
    have := shownL_len xs m h
    omega
  | .tup xs, 0, h => by cases h
  | .tup xs, m + 1, h => by
    show (PyData.tuple (toDL xs)).shown.length ≤ szL xs + 4
    rw [PyData.shown.eq_6]
    have := tupleText_le (PyData.shownAll (toDL xs))
    have := shownL_len xs m h
    omega
  | .dct _ _, m, h => by cases h
  | .obj _ _ _, m, h => by cases h
  | .ty _, m, h => by cases h
  | .glo _, m, h => by cases h
  | .raw _, m, h => by cases h
  | .rwp _ _, m, h => by cases h
  | .scr _, m, h => by cases h
theorem shownL_len : ∀ (xs : List P) (m : Nat), datL xs m = true → ((PyData.shownAll (toDL xs)).map fun t => t.length + 2).sum ≤ szL xs
  | [], m, _ => by
    show ((PyData.shownAll []).map fun t => t.length + 2).sum ≤ 0
    rw [PyData.shownAll.eq_1]
    exact Nat.le_refl _
  | x :: xs, m, h => by
    have h : (x.dat m && datL xs m) = true := h
    rw [Bool.and_eq_true] at h
    have h1 := shown_len x m h.1
    have h2 := shownL_len xs m h.2
    show ((PyData.shownAll (x.toD :: toDL xs)).map fun t => t.length + 2).sum ≤ x.sz + 2 + szL xs
    rw [PyData.shownAll.eq_2, List.map_cons, List.sum_cons]
    omega
end
theorem reprP_len {x : P} (h : x.dat 60 = true) : (reprP x).length ≤ x.sz := by
  have := shown_len x 60 h
  have e : (reprP x).length = x.toD.shown.length := by
    unfold reprP
    rw [Array.length_toList]
    rfl
  rw [e]
  exact this
theorem szL_map {A : Type} {f : A → P} {c : Nat} : ∀ {l : List A}, (∀ x ∈ l, (f x).sz ≤ c) → szL (l.map f) ≤ l.length * (c + 2)
  | [], _ => Nat.zero_le _
  | a :: l, h => by
    have h1 := h a List.mem_cons_self
    have h2 := szL_map (f := f) (l := l) fun x hx => h x (List.mem_cons_of_mem _ hx)
    show (f a).sz + 2 + szL (l.map f) ≤ _
    rw [List.length_cons, Nat.add_mul]
    omega
theorem op_reprL {xs : List P} (h : (P.lst xs).dat 60 = true) (h2 : (P.lst xs).toD.showable = true) (h3 : (P.lst xs).sz ≤ 100000) : pRepr [.lst xs] = some (.str (reprP (.lst xs))) := by
  unfold pRepr
  dsimp only
  rw [h, h2]
  have := reprP_len h
  rw [if_pos (by rw [decide_eq_true (Nat.le_trans this h3)]; rfl)]
def Sm (s : Str) : Prop := ∀ c ∈ s.cps.toList, c < 128
theorem Sm.app {s t : Str} (h : Sm s) (h' : Sm t) : Sm (s ++ t) := fun c hc => by
  have e : (s ++ t).cps = s.cps ++ t.cps := rfl
  rw [e, Array.toList_append, List.mem_append] at hc
  exact hc.elim (h c) (h' c)
theorem Sm.join {s : Str} (h : Sm s) : ∀ {ts : List Str}, (∀ t ∈ ts, Sm t) → Sm (s.join ts)
  | [], _ => by
    rw [Str.join.eq_1]
    intro c hc
    cases hc
  | [t], h' => by
    rw [Str.join.eq_2]
    exact h' t List.mem_cons_self
  | t :: u :: r, h' => by
    rw [Str.join.eq_3 _ _ _ (by simp)]
    exact ((h' t List.mem_cons_self).app h).app (Sm.join h fun x hx => h' x (List.mem_cons_of_mem _ hx))
end Mir

namespace Mir
open PySem L2
end Mir

namespace Mir
open PySem L2
section
variable {ρ ρ1 ρ2 : En} {S S1 S2 S3 S4 : Sto} {a b o i v : ME} {m r : MA} {t : MT} {s : MS} {x y z : P} {d e : Vl} {ds es : List Vl} {xs ys : List P}
theorem app_p {k : Nat} (h : S[k]? = some (.lst xs)) (hl : xs.length < 100000) : fApp (.c k) [.p z] S = .ok (.p .non) (S.set k (.lst (xs ++ [z]))) := by
  unfold fApp
  dsimp only
  rw [h]
  dsimp only
  rw [frz_p, bind_ok]
  rw [h]
  dsimp only
  rw [if_pos hl]
theorem pop_l {k : Nat} (h : S[k]? = some (.lst (xs ++ [z]))) : fPop (.c k) [] S = .ok (.p z) (S.set k (.lst xs)) := by
  unfold fPop
  dsimp only
  rw [h]
  dsimp only
  have e : (xs ++ [z])[(xs ++ [z]).length - 1]? = some z := by simp
  rw [e]
  dsimp only
  rw [List.dropLast_concat]
theorem isL_c {k : Nat} (h : S[k]? = some (.lst xs)) : isL S (.c k) = true := by
  unfold isL
  dsimp only
  rw [h]
theorem ixN_last (n : Nat) : ixN (n + 1) (-1) = some n := by
  unfold ixN
  rw [if_neg (by decide), if_pos (by omega)]
  congr 1
  omega
theorem at_last {A : Type} {xs : List A} {z : A} : atI (xs ++ [z]) (-1) = some z := by
  unfold atI
  have e : (xs ++ [z]).length = xs.length + 1 := by simp
  rw [e, ixN_last]
  simp
end
end Mir

namespace Mir
open PySem L2
section
variable {ρ : En} {S S1 S2 S3 : Sto} {a b : ME} {m : MA} {d e v : Vl} {ds : List Vl} {c : PySem.Str} {g : MF} {y : List Nat} {q : Bool}
theorem ev_eqL (ha : a ρ S = .ok d S1) (hb : b ρ S1 = .ok e S2) (h1 : isC c S2 (nv S2 d) = true) (h2 : okTg c (tgOf S2 (nv S2 e)) = true) (hf : g [d, e] S2 = .ok (.p (.bl q)) S3) : eEqM c g a b ρ S = .ok (.p (.bl q)) S3 := by
  unfold eEqM eqMV boolV
  rw [ha, bind_ok, hb, bind_ok, h1, h2, if_pos (show (true && true) = true from rfl), hf, nox_ok, bind_ok]
  dsimp only
  rw [Bool.bne_false]
theorem ev_neL (ha : a ρ S = .ok d S1) (hb : b ρ S1 = .ok e S2) (h1 : isC c S2 (nv S2 d) = true) (h2 : okTg c (tgOf S2 (nv S2 e)) = true) (hf : g [d, e] S2 = .ok (.p (.bl q)) S3) : eNeM c g a b ρ S = .ok (.p (.bl (!q))) S3 := by
  unfold eNeM neMV boolV
  rw [ha, bind_ok, hb, bind_ok, h1, h2, if_pos (show (true && true) = true from rfl), hf, nox_ok, bind_ok]
  dsimp only
  rw [Bool.bne_true]
end
end Mir

namespace Pl
open Mir
abbrev Row := Nat × List Nat
def rwPs (r : Row) : List P := .str [r.1] :: nums r.2
def rwP (r : Row) : P := .tup (rwPs r)
def deedS : List Nat := [99, 105, 110]
inductive Tr
  | leaf (s : Nat)
  | un (s : Nat) (t : Tr)
  | bin (s : Nat) (t u : Tr)
namespace Tr
def ok (ls : List Nat) : Tr → Prop
  | leaf s => s ∈ ls ∨ s = 48 ∨ s = 49
  | un s t => s ∈ deedS ∧ t.ok ls
  | bin s t u => (s = 38 ∨ s = 124) ∧ t.ok ls ∧ u.ok ls
def dep : Tr → Nat
  | leaf _ => 0
  | un _ t => t.dep + 1
  | bin _ t u => max t.dep u.dep + 1
def Den (L : List Row) : Nat → Tr → Prop
  | r, leaf s => L[r]? = some (s, [])
  | r, un s t => ∃ a, L[r]? = some (s, [a]) ∧ a < r ∧ Den L a t
  | r, bin s t u => ∃ a b, L[r]? = some (s, [a, b]) ∧ a < r ∧ b < r ∧ Den L a t ∧ Den L b u
end Tr
theorem pre_at {L M : List Row} {i : Nat} {r : Row} (h : L <+: M) (hi : L[i]? = some r) : M[i]? = some r := by
  obtain ⟨N, rfl⟩ := h
  rw [List.getElem?_append_left (List.getElem?_eq_some_iff.mp hi).1]
  exact hi
theorem Tr.Den.mono {L M : List Row} (h : L <+: M) : ∀ {t : Tr} {r : Nat}, Tr.Den L r t → Tr.Den M r t
  | .leaf s, r, d => pre_at h d
  | .un s t, r, d => by
    obtain ⟨a, h1, h2, h3⟩ := d
    exact ⟨a, pre_at h h1, h2, Tr.Den.mono h h3⟩
  | .bin s t u, r, d => by
    obtain ⟨a, b, h1, h2, h3, h4, h5⟩ := d
    exact ⟨a, b, pre_at h h1, h2, h3, Tr.Den.mono h h4, Tr.Den.mono h h5⟩
theorem Tr.Den.lt {L : List Row} : ∀ {t : Tr} {r : Nat}, Tr.Den L r t → r < L.length
  | .leaf s, r, d => (List.getElem?_eq_some_iff.mp d).1
  | .un s t, r, d => by obtain ⟨a, h1, _⟩ := d; exact (List.getElem?_eq_some_iff.mp h1).1
  | .bin s t u, r, d => by obtain ⟨a, b, h1, _⟩ := d; exact (List.getElem?_eq_some_iff.mp h1).1
def steps : Tr → Nat
  | .leaf _ => 1
  | .un _ t => steps t + 2
  | .bin _ t u => steps t + steps u + 3
end Pl

namespace Mir
open PySem L2 PySem.W PyProof.Rows
end Mir

namespace Mir
open PySem L2
section
variable {ρ ρ1 ρ2 : En} {S S1 S2 S3 : Sto} {a b c e m : ME} {t u : MT} {s s' : MS} {Q : Fl → Sto → Prop}
end
end Mir

namespace Mir
open PySem L2
section
variable {ρ ρ1 : En} {S S1 S2 S3 : Sto} {a b cx : ME} {m r : MA} {s s' : MS} {d e v : Vl} {ds zs as : List Vl} {y : P} {c f : PySem.Str} {x : XD}



end
end Mir

namespace Mir
open PySem L2
section
variable {ρ : En} {S S1 S2 S3 : Sto} {a b : ME} {c c2 : Str} {g g2 : MF} {d e : Vl} {q : Bool}
end
end Mir

namespace Law
open PySem L2 Mir
def Urn (S : Sto) (k : Nat) : Prop := ∃ a b c : Int, S[k]? = some (.lst [.int a, .int b, .int c]) ∧ 0 ≤ a ∧ 0 ≤ b ∧ b < 2147483323 ∧ 0 ≤ c
structure Ux (k : Nat) (S S' : Sto) : Prop where
  len : S'.length = S.length
  urn : Urn S' k
  oth : ∀ j, j ≠ k → S'[j]? = S[j]?
theorem Ux.trans {k : Nat} {S S1 S2 : Sto} (h : Ux k S S1) (h' : Ux k S1 S2) : Ux k S S2 := ⟨h'.len.trans h.len, h'.urn, fun j hj => (h'.oth j hj).trans (h.oth j hj)⟩
theorem Ux.of_set {k : Nat} {S : Sto} {c : Cell} {a b e : Int} (hk : S[k]? = some c) (ha : 0 ≤ a) (hb : 0 ≤ b) (hb2 : b < 2147483323) (hc : 0 ≤ e) : Ux k S (S.set k (.lst [.int a, .int b, .int e])) :=
  ⟨List.length_set, ⟨a, b, e, get_set_self hk, ha, hb, hb2, hc⟩, fun j hj => get_set_ne (Ne.symm hj)⟩
end Law

namespace Law
open PySem L2 Mir Pl
structure N1 (s n : Nat) (rows : List (List Nat)) (S : Sto) : Prop where
  len : S.length = s + n + 1
  cel : ∀ i, i < n → S[s + i]? = some (.lst (nums (row rows i)))
  out : S[s + n]? = some (.lsv ((List.range n).map fun i => Vl.c (s + i)))
theorem N1.app {s n k : Nat} {rows : List (List Nat)} {S : Sto} (h : N1 s n rows S) (hk : k < n) (hr : rows.length = n) (l : List Nat) : N1 s n (rows.set k l) (S.set (s + k) (.lst (nums l))) := by
  refine ⟨by rw [List.length_set]; exact h.len, fun i hi => ?_, ?_⟩
  · by_cases q : i = k
    · subst q
      rw [get_set_self (h.cel i hi), row_set_self (by omega)]
    · rw [get_set_ne (by omega), row_set_ne (Ne.symm q)]
      exact h.cel i hi
  · rw [get_set_ne (by omega)]
    exact h.out
structure Low (ku s : Nat) (S0 S : Sto) : Prop where
  urn : Urn S ku
  oth : ∀ j, j < s → j ≠ ku → S[j]? = S0[j]?
theorem Low.set {ku s k : Nat} {S0 S : Sto} {c : Cell} (h : Low ku s S0 S) (hk : s ≤ k) (hu : ku < s) : Low ku s S0 (S.set k c) := by
  refine ⟨?_, fun j hj hn => by rw [get_set_ne (by omega)]; exact h.oth j hj hn⟩
  obtain ⟨a, b, e, h1, h2⟩ := h.urn
  exact ⟨a, b, e, by rw [get_set_ne (by omega)]; exact h1, h2⟩
abbrev e1 (ku n o : Nat) (sh : Int) (kv jv : Option Vl) : En := [some (.c ku), some (.p (.int (n : Int))), kv, none, some (.c o), some (.p (.int sh)), jv, none, none]
end Law

namespace Law
open PySem L2 Mir Pl
def RdL (s n : Nat) (S : Sto) (d : Vl) (l : List Nat) : Prop := d = .p (.lst (nums l)) ∨ ∃ i, i < n ∧ d = .c (s + i) ∧ (S[s + i]? = some (.lst (nums l)) ∨ S[s + i]? = some (.fz (.lst (nums l))))
theorem RdL.rd {s n : Nat} {S : Sto} {d : Vl} {l : List Nat} (h : RdL s n S d l) : rd S d = some (.lst (nums l)) := by
  rcases h with rfl | ⟨i, _, rfl, h | h⟩
  · rfl
  · exact rd_lst h
  · exact rd_fz h
structure Fz (s n : Nat) (S S' : Sto) : Prop where
  len : S'.length = S.length
  oth : ∀ j, j < s ∨ s + n ≤ j → S'[j]? = S[j]?
  rdl : ∀ d l, RdL s n S d l → RdL s n S' d l
theorem Fz.refl {s n : Nat} {S : Sto} : Fz s n S S := ⟨rfl, fun _ _ => rfl, fun _ _ h => h⟩
theorem Fz.trans {s n : Nat} {S S1 S2 : Sto} (h : Fz s n S S1) (h' : Fz s n S1 S2) : Fz s n S S2 := ⟨h'.len.trans h.len, fun j hj => (h'.oth j hj).trans (h.oth j hj), fun d l q => h'.rdl d l (h.rdl d l q)⟩
theorem RdL.frz {s n : Nat} {S : Sto} {d : Vl} {l : List Nat} (h : RdL s n S d l) : ∃ S', frz d S = .ok (.lst (nums l)) S' ∧ Fz s n S S' := by
  rcases h with rfl | ⟨i, hi, rfl, h | h⟩
  · exact ⟨S, rfl, Fz.refl⟩
  · refine ⟨_, frz_lst h, by rw [List.length_set], fun j hj => get_set_ne (by omega), fun d' l' q => ?_⟩
    rcases q with q | ⟨i', hi', rfl, q⟩
    · exact .inl q
    · refine .inr ⟨i', hi', rfl, ?_⟩
      by_cases e : i' = i
      · subst e
        rw [get_set_self h]
        rw [h] at q
        rcases q with q | q
        · rw [← Cell.lst.inj (Option.some.inj q)]; exact .inr rfl
        · cases q
      · rw [get_set_ne (by omega)]
        exact q
  · exact ⟨S, frz_fz h, Fz.refl⟩
structure N2 (s n : Nat) (rows : List (List Nat)) (S : Sto) : Prop where
  len : S.length = s + n + 1
  ex : ∃ ds, S[s + n]? = some (.lsv ds) ∧ ds.length = n ∧ ∀ i, i < n → ∃ d, ds[i]? = some d ∧ RdL s n S d (row rows i)
theorem N1.n2 {s n : Nat} {rows : List (List Nat)} {S : Sto} (h : N1 s n rows S) : N2 s n rows S :=
  ⟨h.len, _, h.out, by rw [List.length_map, List.length_range], fun i hi => ⟨.c (s + i), by rw [List.getElem?_map, List.getElem?_range hi]; rfl, .inr ⟨i, hi, rfl, .inl (h.cel i hi)⟩⟩⟩
theorem N2.fz {s n : Nat} {rows : List (List Nat)} {S S' : Sto} (h : N2 s n rows S) (f : Fz s n S S') : N2 s n rows S' := by
  obtain ⟨ds, h1, h2, h3⟩ := h.ex
  refine ⟨f.len.trans h.len, ds, by rw [f.oth _ (by omega)]; exact h1, h2, fun i hi => ?_⟩
  obtain ⟨d, e, r⟩ := h3 i hi
  exact ⟨d, e, f.rdl _ _ r⟩
theorem ixN_nat {n i : Nat} (h : i < n) : ixN n (i : Int) = some i := by
  unfold ixN
  rw [if_pos (by omega), if_pos (by omega)]
  simp
abbrev e2 (ku n o : Nat) (sh : Int) (tv kv jv : Option Vl) : En := [some (.c ku), some (.p (.int (n : Int))), kv, tv, some (.c o), some (.p (.int sh)), jv, none, none]
end Law

namespace Pl
def insN (n : Nat) : List Nat → List Nat
  | [] => [n]
  | m :: r => if n ≤ m then n :: m :: r else m :: insN n r
def sortN : List Nat → List Nat
  | [] => []
  | n :: r => insN n (sortN r)
structure Near (n : Nat) (near : List (List Nat)) : Prop where
  len : near.length = n
  srt : ∀ i, i < n → (row near i).Pairwise (· < ·)
  lt : ∀ i, i < n → ∀ e ∈ row near i, e < n
  rfl_ : ∀ i, i < n → i ∈ row near i
  trs : ∀ i, i < n → ∀ j ∈ row near i, ∀ e ∈ row near j, e ∈ row near i
end Pl
namespace Mir
open L2 Pl
theorem ins_nums (n : Nat) : ∀ l : List Nat, ins (n : Int) (l.map fun (e : Nat) => (e : Int)) = (insN n l).map fun (e : Nat) => (e : Int)
  | [] => rfl
  | m :: r => by
    show (if (n : Int) ≤ (m : Int) then (n : Int) :: (m : Int) :: r.map (fun (e : Nat) => (e : Int)) else (m : Int) :: ins (n : Int) (r.map fun (e : Nat) => (e : Int))) = (if n ≤ m then n :: m :: r else m :: insN n r).map _
    by_cases h : n ≤ m
    · rw [if_pos h, if_pos (by omega)]; rfl
    · rw [if_neg h, if_neg (by omega), ins_nums n r]; rfl
theorem isort_nums : ∀ l : List Nat, isort (l.map fun (e : Nat) => (e : Int)) = (sortN l).map fun (e : Nat) => (e : Int)
  | [] => rfl
  | n :: r => by
    show ins (n : Int) (isort (r.map fun (e : Nat) => (e : Int))) = _
    rw [isort_nums r, ins_nums]
    rfl
theorem nums_map (l : List Nat) : nums l = (l.map fun (e : Nat) => (e : Int)).map P.int := by
  unfold nums
  rw [List.map_map]
  rfl
theorem pSorted_nums (l : List Nat) : pSorted [.lst (nums l)] = some (.lst (nums (sortN l))) := by
  show (intsOf (nums l)).map (fun ns => P.lst ((isort ns).map P.int)) = _
  rw [nums_map, intsOf_map, nums_map]
  show some (P.lst ((isort (l.map fun (e : Nat) => (e : Int))).map P.int)) = _
  rw [isort_nums]
end Mir
namespace Law
open PySem L2 Mir Pl
theorem RdL.frzN {s n : Nat} {S : Sto} {d : Vl} {l : List Nat} (m : Nat) (h : RdL s n S d l) : ∃ S', frzN (m + 1) d S = .ok (.lst (nums l)) S' ∧ Fz s n S S' := by
  have e : Mir.frzN (m + 1) d S = Mir.frz d S := by
    rcases h with rfl | ⟨i, hi, rfl, h | h⟩
    · rfl
    · rw [frz_lst h]
      unfold Mir.frzN
      dsimp only
      rw [h]
    · rw [frz_fz h]
      unfold Mir.frzN
      dsimp only
      rw [h]
  rw [e]
  exact h.frz
end Law

namespace Pl
end Pl
namespace Mir
abbrev txts (l : List (List Nat)) : List P := l.map P.str
@[simp] theorem strs_length (l : List (List Nat)) : (txts l).length = l.length := List.length_map _
end Mir
namespace Law
open PySem L2 Mir Pl
end Law

namespace Mir
open L2
@[simp] theorem tyP_str (x : List Nat) : tyP "str" (.str x) = true := rfl
@[simp] theorem tyP_lst (x : List P) : tyP "list" (.lst x) = true := rfl
theorem strsOf_txts (l : List (List Nat)) : strsOf (txts l) = some l := by
  induction l with
  | nil => rfl
  | cons a l ih =>
    show (strsOf (txts l)).map (a :: ·) = _
    rw [ih]
    rfl
theorem pJoin_txts {s : List Nat} {l : List (List Nat)} (h : (l.map (·.length)).sum + l.length * s.length ≤ 1000000) : pJoin (.str s) [.lst (txts l)] = some (.str (TL.joinL s l)) := by
  show (strsOf (txts l)).bind _ = _
  rw [strsOf_txts]
  show (if (l.map (·.length)).sum + l.length * s.length ≤ 1000000 then some (P.str (TL.joinL s l)) else none) = _
  rw [if_pos h]
theorem joinL_len (s : List Nat) : ∀ l : List (List Nat), (TL.joinL s l).length ≤ (l.map (·.length)).sum + l.length * s.length
  | [] => Nat.zero_le _
  | [p] => by
    show p.length ≤ _
    simp
  | p :: q :: r => by
    have ih := joinL_len s (q :: r)
    show (p ++ (s ++ TL.joinL s (q :: r))).length ≤ _
    rw [List.length_append, List.length_append, List.map_cons, List.sum_cons, List.length_cons, Nat.add_mul]
    omega
theorem sum_len_le {c : Nat} : ∀ {l : List (List Nat)}, (∀ x ∈ l, x.length ≤ c) → (l.map (·.length)).sum ≤ l.length * c
  | [], _ => by simp
  | a :: l, h => by
    have ih := sum_len_le (l := l) fun x hx => h x (List.mem_cons_of_mem _ hx)
    have h0 := h a List.mem_cons_self
    rw [List.map_cons, List.sum_cons, List.length_cons, Nat.add_mul]
    omega
theorem pSplit_of {x s : List Nat} (h : s ≠ []) (h2 : (s.all fun c => decide (c < 256)) = true) (h3 : x.length ≤ 1000000) : pSplit (.str x) [.str s] = some (.lst (txts (TL.spl s 0 [] x))) := by
  show (if s ≠ [] ∧ (s.all fun c => decide (c < 256)) = true ∧ x.length ≤ 1000000 then some (P.lst ((TL.spl s 0 [] x).map P.str)) else none) = _
  rw [if_pos ⟨h, h2, h3⟩]
  skip
end Mir
namespace Law
open PySem L2 Mir Pl
structure NameOk (x : List Nat) : Prop where
  is : ∀ S, m_is_name [.p (.str x)] S = .ok (.p (.bl true)) S
  c10 : 10 ∉ x
  c32 : 32 ∉ x
  c58 : 58 ∉ x
  len : x.length ≤ 8
  asc : (x.all fun c => decide (c < 128)) = true
theorem name_of {x : List Nat} (h : ∀ S, b_is_name [some (.p (.str x)), none, none] S = .ok (.rt (.p (.bl true))) S) (S : Sto) : m_is_name [.p (.str x)] S = .ok (.p (.bl true)) S := by
  unfold m_is_name
  rw [mkF_eq 1 2 _ [.p (.str x)] S rfl]
  show endF S.length (b_is_name [some (.p (.str x)), none, none] S) = _
  rw [h S, endF_p, take_self]
def rowT (x : List Nat) (ns : List (List Nat)) : List Nat := x ++ ([58, 32] ++ TL.joinL [32] ns)
theorem rowT_len {x : List Nat} {ns : List (List Nat)} (hx : x.length ≤ 8) (h : ∀ y ∈ ns, y.length ≤ 8) : (rowT x ns).length ≤ 10 + ns.length * 9 := by
  unfold rowT
  have h1 := joinL_len [32] ns
  have h2 := sum_len_le h
  rw [List.length_append, List.length_append]
  simp at h1 ⊢
  omega
theorem read_row_ok {x : List Nat} {ns : List (List Nat)} (hx : NameOk x) (h0 : ns ≠ []) (h : ∀ y ∈ ns, NameOk y) (hl : ns.length ≤ 1000) (S : Sto) : m_read_row [.p (.str (rowT x ns))] S = .ok (.p (.tup [.str x, .lst (txts ns)])) S := by
  have hlen := rowT_len hx.len fun y hy => (h y hy).len
  have hj := joinL_len [32] ns
  have hs := sum_len_le fun y hy => (h y hy).len
  have hpart : pPartition (.str (rowT x ns)) [.str [58, 32]] = some (.tup [.str x, .str [58, 32], .str (TL.joinL [32] ns)]) := by
    have e : partL [58, 32] (rowT x ns) = (x, [58, 32], TL.joinL [32] ns) := by
      unfold partL rowT
      rw [TL.par_part1 hx.c58]
      rfl
    show (if ([58, 32] : List Nat) ≠ [] ∧ (rowT x ns).length ≤ 100000 then some (P.tup [.str (partL [58, 32] (rowT x ns)).1, .str (partL [58, 32] (rowT x ns)).2.1, .str (partL [58, 32] (rowT x ns)).2.2]) else none) = _
    rw [if_pos ⟨by decide, by omega⟩, e]
  have hsp : TL.spl [32] 0 [] (TL.joinL [32] ns) = ns := TL.spl_join h0 fun p hp => (h p hp).c32
  have hsplit : pSplit (.str (TL.joinL [32] ns)) [.str [32]] = some (.lst (txts ns)) := by
    rw [pSplit_of (by decide) (by decide) (by simp at hj; omega), hsp]
  have hne : pNe (.str [58, 32]) (.str []) = some (.bl true) := rfl
  unfold m_read_row b_read_row
  rw [mkF_eq 1 4 _ [.p (.str (rowT x ns))] S rfl]
  simp [hpart, hsplit, hne, hx.is]
end Law

namespace Mir
open L2 Pl
theorem inP_txts (x : List Nat) (l : List (List Nat)) : inP (.str x) (txts l) = l.contains x := by
  induction l with
  | nil => rfl
  | cons a l ih =>
    show ((a == x) || inP (.str x) (txts l)) = _
    rw [ih, List.contains_cons]
    congr 1
    rw [Bool.eq_iff_iff]
    simp
    exact eq_comm
theorem flat_txts (l : List (List Nat)) : (txts l).all flatP = true := by
  unfold txts
  rw [List.all_map, List.all_eq_true]
  intro x _
  rfl
theorem pIn2_txts (x : List Nat) (l : List (List Nat)) : pIn2 (.str x) (.lst (txts l)) = some (.bl (l.contains x)) := by
  unfold pIn2 pIn
  dsimp only
  rw [flat_txts]
  show (match some (P.bl (inP (.str x) (txts l))) with
    | some z => some z
    | none => pInD (.str x) (.lst (txts l))) = _
  rw [inP_txts]
theorem idxP_txts {x : List Nat} : ∀ {l : List (List Nat)} {i k : Nat}, l.Nodup → l[i]? = some x → idxP (.str x) (txts l) k = some (k + i)
  | [], i, k, _, h => by simp at h
  | a :: l, 0, k, _, h => by
    have : a = x := by simpa using h
    subst this
    show (if (a == a) = true then some k else _) = _
    rw [if_pos (by simp)]
    rfl
  | a :: l, i + 1, k, nd, h => by
    rw [List.nodup_cons] at nd
    have h' : l[i]? = some x := by simpa using h
    have hm : x ∈ l := List.mem_of_getElem? h'
    show (if (a == x) = true then some k else idxP (.str x) (txts l) (k + 1)) = _
    rw [if_neg (by
      simp
      intro z
      subst z
      exact nd.1 hm), idxP_txts nd.2 h']
    congr 1
    omega
theorem pIndex_txts {x : List Nat} {l : List (List Nat)} {i : Nat} (nd : l.Nodup) (h : l[i]? = some x) : pIndex (.lst (txts l)) [.str x] = some (.int (i : Int)) := by
  show (if flatP (.str x) && (txts l).all flatP then (idxP (.str x) (txts l) 0).map (fun (i : Nat) => P.int (i : Int)) else none) = _
  rw [flat_txts]
  show (idxP (.str x) (txts l) 0).map (fun (i : Nat) => P.int (i : Int)) = _
  rw [idxP_txts nd h, Nat.zero_add]
  rfl
end Mir
namespace Law
open PySem L2 Mir Pl
def pick (order : List (List Nat)) (l : List Nat) : List (List Nat) := l.map fun i => order.getD i []
def sq (b : Bool) (xs : List P) : P := if b then .lst xs else .tup xs
theorem items_sq (b : Bool) (xs : List P) : itemsP (sq b xs) = some xs := by cases b <;> rfl
theorem pIdx_at {order : List (List Nat)} {i : Nat} (nd : order.Nodup) (hi : i < order.length) : pIndex (.lst (txts order)) [.str (order.getD i [])] = some (.int (i : Int)) := by
  refine pIndex_txts nd ?_
  rw [List.getElem?_eq_getElem hi]
  simp [hi]
theorem mem_getD {order : List (List Nat)} {i : Nat} (hi : i < order.length) : order.getD i [] ∈ order := by
  simp [hi]
theorem places_ok {order : List (List Nat)} {l : List Nat} (nd : order.Nodup) (hl : ∀ i ∈ l, i < order.length) : (txts (pick order l)).map (fun p => (pIndex (.lst (txts order)) [p]).getD .non) = nums l := by
  unfold txts pick nums
  rw [List.map_map, List.map_map]
  apply List.map_congr_left
  intro i hi
  show (pIndex (.lst (txts order)) [.str (order.getD i [])]).getD .non = _
  rw [pIdx_at nd (hl i hi)]
  rfl
theorem blsOf_map (l : List Bool) : blsOf (l.map P.bl) = some l := by
  induction l with
  | nil => rfl
  | cons a l ih =>
    show (blsOf (l.map P.bl)).map (a :: ·) = _
    rw [ih]
    rfl
theorem pAll_bls (l : List Bool) : pAll [.lst (l.map P.bl)] = some (.bl (l.all id)) := by
  show (blsOf (l.map P.bl)).map (fun ns => P.bl (ns.all id)) = _
  rw [blsOf_map]
  rfl
theorem pAny_bls (l : List Bool) : pAny [.lst (l.map P.bl)] = some (.bl (l.any id)) := by
  show (blsOf (l.map P.bl)).map (fun ns => P.bl (ns.any id)) = _
  rw [blsOf_map]
  rfl
theorem is_ordered_ok {order : List (List Nat)} {l : List Nat} {b : Bool} (nd : order.Nodup) (hl : ∀ i ∈ l, i < order.length) (hs : l.Pairwise (· < ·)) (hn : l.length ≤ 1000) (S : Sto) :
    m_is_ordered [.p (.lst (txts order)), .p (sq b (txts (pick order l)))] S = .ok (.p (.bl true)) S := by
  have e1 : eLc (itOf (eVar 1)) [3] (gNm 3) tsYes (eIfM (tVal (eBin pIn2 (eVar 3) (eVar 0))) (eMthT "list" pIndex (eVar 0) (aCons (eVar 3) aNil)) (eUn pNeg (eC (.int 1)))) [some (.p (.lst (txts order))), some (.p (sq b (txts (pick order l)))), none, none, none] S = .ok (.p (.lst (nums l))) S := by
    rw [eLc_map (S1 := S) (xs := txts (pick order l)) (fun p => (pIndex (.lst (txts order)) [p]).getD .non) ?_ ?_ ?_, places_ok nd hl]
    · simp [items_sq]
    · rw [strs_length]; unfold pick; rw [List.length_map]; omega
    · intro x hx
      obtain ⟨y, hy, rfl⟩ := List.mem_map.mp hx
      obtain ⟨i, hi, rfl⟩ := List.mem_map.mp hy
      refine ⟨[some (.p (.lst (txts order))), some (.p (sq b (txts (pick order l)))), none, some (.p (.str (order.getD i []))), none], rfl, ?_⟩
      have hm : order.contains (order.getD i []) = true := by rw [List.contains_iff_mem]; exact mem_getD (hl i hi)
      have e := pIdx_at nd (hl i hi)
      have e2 := pIn2_txts (order.getD i []) order
      rw [hm] at e2
      generalize order.getD i [] = z at e e2 ⊢
      simp [e, e2]
  have e2 : eLc (itOf (eVar 2)) [4] (gNm 4) tsYes (eBin (pIB fun i j => decide (j ≤ i)) (eVar 4) (eC (.int 0))) [some (.p (.lst (txts order))), some (.p (sq b (txts (pick order l)))), some (.p (.lst (nums l))), none, none] S = .ok (.p (.lst ((l.map fun _ => true).map P.bl))) S := by
    rw [eLc_map (S1 := S) (xs := nums l) (fun _ => .bl true) ?_ ?_ ?_]
    · unfold nums
      rw [List.map_map, List.map_map]
      rfl
    · simp
    · rw [ints_length]; omega
    · intro x hx
      obtain ⟨i, hi, rfl⟩ := List.mem_map.mp hx
      refine ⟨[some (.p (.lst (txts order))), some (.p (sq b (txts (pick order l)))), some (.p (.lst (nums l))), none, some (.p (.int (i : Int)))], rfl, ?_⟩
      simp
  have e3 : eLc (itRange2 (eC (.int 1)) (eCall pLen (aCons (eVar 2) aNil))) [4] (gNm 4) tsYes (eBin bLt (eItem (eVar 2) (eBin (pI fun i j => i - j) (eVar 4) (eC (.int 1)))) (eItem (eVar 2) (eVar 4))) [some (.p (.lst (txts order))), some (.p (sq b (txts (pick order l)))), some (.p (.lst (nums l))), none, none] S = .ok (.p (.lst (((List.range (l.length - 1)).map fun _ => true).map P.bl))) S := by
    rw [eLc_map (S1 := S) (xs := rangeP 1 (l.length - 1)) (fun _ => .bl true) ?_ ?_ ?_]
    · unfold rangeP
      rw [List.map_map, List.map_map]
      rfl
    · have := itRange2_nat (a := eC (.int 1)) (b := eCall pLen (aCons (eVar 2) aNil)) (ρ := [some (.p (.lst (txts order))), some (.p (sq b (txts (pick order l)))), some (.p (.lst (nums l))), none, none]) (S := S) (S1 := S) (S2 := S) (m := 1) (n := l.length) rfl (by simp) (by omega) (by omega)
      exact this
    · rw [rangeP_length]; omega
    · intro x hx
      obtain ⟨i, hi, rfl⟩ := List.mem_map.mp hx
      have hi' := List.mem_range.mp hi
      refine ⟨[some (.p (.lst (txts order))), some (.p (sq b (txts (pick order l)))), some (.p (.lst (nums l))), none, some (.p (.int (1 + (i : Int))))], rfl, ?_⟩
      have a1 : atI (nums l) (1 + (i : Int) - 1) = some (.int ((l[i]'(by omega) : Nat) : Int)) := by
        have e : (1 + (i : Int) - 1) = ((i : Nat) : Int) := by omega
        rw [e]
        refine atN ?_
        unfold nums
        rw [List.getElem?_map, List.getElem?_eq_getElem (by omega)]
        rfl
      have a2 : atI (nums l) (1 + (i : Int)) = some (.int ((l[i + 1]'(by omega) : Nat) : Int)) := by
        have e : (1 + (i : Int)) = ((i + 1 : Nat) : Int) := by omega
        rw [e]
        refine atN ?_
        unfold nums
        rw [List.getElem?_map, List.getElem?_eq_getElem (by omega)]
        rfl
      have lt : l[i]'(by omega) < l[i + 1]'(by omega) := List.pairwise_iff_getElem.mp hs i (i + 1) (by omega) (by omega) (by omega)
      simp [a1, a2]
      omega
  unfold m_is_ordered b_is_ordered
  rw [mkF_eq 2 3 _ [.p (.lst (txts order)), .p (sq b (txts (pick order l)))] S rfl]
  show endF S.length ((sSeq (sAsg (eLc (itOf (eVar 1)) [3] (gNm 3) tsYes (eIfM (tVal (eBin pIn2 (eVar 3) (eVar 0))) (eMthT "list" pIndex (eVar 0) (aCons (eVar 3) aNil)) (eUn pNeg (eC (.int 1))))) (gNm 2)) _) [some (.p (.lst (txts order))), some (.p (sq b (txts (pick order l)))), none, none, none] S) = _
  rw [sSeq_eq, sAsg_eq, e1, go_ok, gNm_eq, nox_ok, go_ok, thn_nx]
  have t2 : (l.map fun _ => true).all id = true := by simp
  have t3 : ((List.range (l.length - 1)).map fun _ => true).all id = true := by simp
  have f2 := eCall1_of (g := pAll) e2 (by rw [pAll_bls, t2])
  have f3 := eCall1_of (g := pAll) e3 (by rw [pAll_bls, t3])
  show endF S.length (sRet (eAndM _ _) [some (.p (.lst (txts order))), some (.p (sq b (txts (pick order l)))), some (.p (.lst (nums l))), none, none] S) = _
  rw [sRet_eq, eAnd_eq, f2, bind_ok, tst_bl, bind_ok]
  dsimp only
  rw [f3, go_ok, endF_p, take_self]
end Law

namespace Law
open PySem L2 Mir Pl
theorem sum_nat (l : List Nat) : (l.map fun (e : Nat) => (e : Int)).sum = ((l.sum : Nat) : Int) := by
  induction l with
  | nil => rfl
  | cons a l ih => rw [List.map_cons, List.sum_cons, ih, List.sum_cons]; omega
theorem pSum_nums (l : List Nat) : pSum [.lst (nums l)] = some (.int ((l.sum : Nat) : Int)) := by
  show (intsOf (nums l)).map (fun ns => P.int ns.sum) = _
  rw [nums_map, intsOf_map]
  show some (P.int (l.map fun (e : Nat) => (e : Int)).sum) = _
  rw [sum_nat]
theorem shl_ok {i : Nat} (h : i ≤ 1000) : pIC bPow (fun i j => i * 2 ^ j.toNat) (.int 1) (.int (i : Int)) = some (.int ((2 ^ i : Nat) : Int)) := by
  rw [pIC_int]
  have hb : bPow 1 (i : Int) = true := by
    unfold bPow
    rw [decide_eq_true (show (0 : Int) ≤ (i : Int) by omega), decide_eq_true (show (i : Int) ≤ 1000000 by omega)]
    decide
  rw [if_pos hb, Int.toNat_natCast, Int.one_mul]
  congr 2
theorem bits_of_ok {order : List (List Nat)} {l : List Nat} {b : Bool} (nd : order.Nodup) (hl : ∀ i ∈ l, i < order.length) (hn : l.length ≤ 1000) (ho : order.length ≤ 1000) (S : Sto) :
    m_bits_of [.p (.lst (txts order)), .p (sq b (txts (pick order l)))] S = .ok (.p (.int ((bitsN l : Nat) : Int))) S := by
  have e1 : eLc (itOf (eVar 1)) [2] (gNm 2) tsYes (eBin (pIC bPow fun i j => i * 2 ^ j.toNat) (eC (.int 1)) (eMthT "list" pIndex (eVar 0) (aCons (eVar 2) aNil))) [some (.p (.lst (txts order))), some (.p (sq b (txts (pick order l)))), none] S = .ok (.p (.lst (nums (l.map fun a => 2 ^ a)))) S := by
    rw [eLc_map (S1 := S) (xs := txts (pick order l)) (fun p => match (pIndex (.lst (txts order)) [p]).getD .non with
      | .int i => .int ((2 ^ i.toNat : Nat) : Int)
      | _ => .non) ?_ ?_ ?_]
    · congr 3
      unfold txts pick nums
      rw [List.map_map, List.map_map, List.map_map]
      apply List.map_congr_left
      intro i hi
      show (match (pIndex (.lst (txts order)) [.str (order.getD i [])]).getD .non with
        | .int i => P.int ((2 ^ i.toNat : Nat) : Int)
        | _ => .non) = _
      rw [pIdx_at nd (hl i hi)]
      rfl
    · simp [items_sq]
    · rw [strs_length]; unfold pick; rw [List.length_map]; omega
    · intro x hx
      obtain ⟨y, hy, rfl⟩ := List.mem_map.mp hx
      obtain ⟨i, hi, rfl⟩ := List.mem_map.mp hy
      refine ⟨[some (.p (.lst (txts order))), some (.p (sq b (txts (pick order l)))), some (.p (.str (order.getD i [])))], rfl, ?_⟩
      have e := pIdx_at nd (hl i hi)
      have hi2 := hl i hi
      have sh := shl_ok (i := i) (by omega)
      generalize order.getD i [] = z at e ⊢
      rw [eBin_eq, eC_eq, bind_ok]
      have em : eMthT "list" pIndex (eVar 0) (aCons (eVar 2) aNil) [some (.p (.lst (txts order))), some (.p (sq b (txts (pick order l)))), some (.p (.str z))] S = .ok (.p (.int (i : Int))) S := by simp [e]
      rw [em, bind_ok, op2_pp, sh, ofO_some, e]
      rfl
  unfold m_bits_of b_bits_of
  rw [mkF_eq 2 1 _ [.p (.lst (txts order)), .p (sq b (txts (pick order l)))] S rfl]
  show endF S.length (sRet (eCall pSum (aCons _ aNil)) [some (.p (.lst (txts order))), some (.p (sq b (txts (pick order l)))), none] S) = _
  rw [sRet_eq, eCall1_of e1 (pSum_nums _), go_ok, endF_p, take_self]
  rfl
theorem indexes_of_ok {B n : Nat} (hB : B < 2 ^ n) (hn : n ≤ 1000) (S : Sto) : m_indexes_of [.p (.int (B : Int))] S = .ok (.p (.lst (nums (mem_ n B)))) S := by
  have hbits : PySem.Builtin.Int.intBits (B : Int) ≤ n := intBits_le_iff.mpr (by simpa using hB)
  generalize hm : PySem.Builtin.Int.intBits (B : Int) = m at hbits
  have hBm : B < 2 ^ m := by
    have := intBits_le_iff.mp (Nat.le_of_eq hm)
    simpa using this
  have e1 : eLc (itRange1 (eUn pBits (eVar 0))) [1] (gNm 1) (tVal (eBin pEq (eBin (pI fun i j => Builtin.bitAnd i j) (eBin (pIC bShr fun i j => i / 2 ^ j.toNat) (eVar 0) (eVar 1)) (eC (.int 1))) (eC (.int 1)))) (eVar 1) [some (.p (.int (B : Int))), none] S = .ok (.p (.lst (nums (mem_ n B)))) S := by
    rw [eLc_pure (S1 := S) (xs := nums (List.range m)) (fun p => match p with
      | .int i => B.testBit i.toNat
      | _ => false) id ?_ ?_ ?_]
    · rw [List.map_id, filter_ints fun i => B.testBit i]
      · unfold mem_
        rw [filter_range hbits]
        intro i hi
        exact Nat.testBit_lt_two_pow (Nat.lt_of_lt_of_le hBm (Nat.pow_le_pow_right (by decide) hi))
      · intro e
        simp
    · rw [← rangeP_ints]
      refine itRange1_nat ?_ (by omega)
      rw [eUn_eq, eVar_0, bind_ok, op1_p]
      show ofO (some (P.int ((PySem.Builtin.Int.intBits (B : Int) : Nat) : Int))) S = _
      rw [hm]
      rfl
    · rw [ints_length, List.length_range]; omega
    · intro x hx
      obtain ⟨i, hi, rfl⟩ := List.mem_map.mp hx
      refine ⟨[some (.p (.int (B : Int))), some (.p (.int (i : Int)))], rfl, ?_, fun _ => rfl⟩
      have hs : bShr (B : Int) (i : Int) = true := decide_eq_true (by omega)
      have ht := shr_test B i
      rw [Int.toNat_natCast] at ht
      simp only [tVal_eq, eBin_eq, eVar_0, eVar_s, eC_eq, bind_ok, op2_pp, pIC_int, hs, if_true, ofO_some, pI_int, ht, pEq_int, tst_bl, Int.toNat_natCast]
      cases B.testBit i <;> rfl
  unfold m_indexes_of b_indexes_of
  rw [mkF_eq 1 1 _ [.p (.int (B : Int))] S rfl]
  show endF S.length (sRet _ [some (.p (.int (B : Int))), none] S) = _
  rw [sRet_eq, e1, go_ok, endF_p, take_self]
end Law

namespace Law
open PySem L2 Mir Pl
theorem nums_getD {l : List Nat} {i : Nat} (h : i < l.length) : (nums l).getD i .non = .int ((l.getD i 0 : Nat) : Int) := by
  unfold nums
  simp [h]
def bitsL (near : List (List Nat)) : List Nat := near.map bitsN
theorem bitsL_at {near : List (List Nat)} {i : Nat} (h : i < near.length) : (bitsL near).getD i 0 = bitsN (row near i) := by
  unfold bitsL row
  simp [h]
end Law

namespace Law
open PySem L2 Mir Pl
theorem near_nd {n : Nat} {near : List (List Nat)} (h : Near n near) {i : Nat} (hi : i < n) : (row near i).Nodup := (h.srt i hi).imp fun z => Nat.ne_of_lt z
theorem near_bits {n : Nat} {near : List (List Nat)} (h : Near n near) {i : Nat} (hi : i < n) : bitsN (row near i) < 2 ^ n := bits_lt (near_nd h hi) (h.lt i hi)
theorem near_sub {n : Nat} {near : List (List Nat)} (h : Near n near) {i o : Nat} (hi : i < n) (ho : o ∈ row near i) : bitsN (row near o) - (bitsN (row near o) &&& bitsN (row near i)) = 0 := by
  have hon := h.lt i hi o ho
  apply Nat.eq_of_testBit_eq
  intro j
  rw [test_minus, bits_test (near_nd h hon), bits_test (near_nd h hi), Nat.zero_testBit]
  cases q : (row near o).contains j with
  | false => rfl
  | true =>
    have := h.trs i hi o ho j (by simpa using q)
    simp [this]
theorem is_seeing_ok {n : Nat} {near : List (List Nat)} (h : Near n near) (hn : n ≤ 1000) (S : Sto) : m_is_seeing [.p (.lst (nums (bitsL near)))] S = .ok (.p (.bl true)) S := by
  have hl : (nums (bitsL near)).length = n := by rw [ints_length]; unfold bitsL; rw [List.length_map]; exact h.len
  have loop := forGo_list (g := gTp 2 (gCn (gNm 1) (gCn (gNm 2) gNl))) (b := sIf (tOrM (tVal (eBin pEq (eBin (pI fun i j => Builtin.bitAnd i j) (eBin (pIC bShr fun i j => i / 2 ^ j.toNat) (eVar 2) (eVar 1)) (eC (.int 1))) (eC (.int 0)))) (tVal (eCall pAny (aCons (eLc (itOf (eFn m_indexes_of (aCons (eVar 2) aNil))) [3] (gNm 3) tsYes (eBin pNe (eBin (pI fun i j => Builtin.bitAnd i j) (eItem (eVar 0) (eVar 3)) (eUn pInv (eVar 2))) (eC (.int 0)))) aNil)))) (sRet (eC (.bl false))) sPass)
    (fun (i : Nat) => P.tup [.int (i : Int), (nums (bitsL near)).getD i .non]) (fun _ ρ S' => S' = S ∧ ∃ a b, ρ = [some (.p (.lst (nums (bitsL near)))), a, b, none]) (List.range n) [some (.p (.lst (nums (bitsL near)))), none, none, none] S ⟨rfl, none, none, rfl⟩ ?_
  · obtain ⟨ρ', S', e, rfl, a, b, rfl⟩ := loop
    unfold m_is_seeing b_is_seeing
    rw [mkF_eq 1 3 _ [.p (.lst (nums (bitsL near)))] S' rfl]
    show endF S'.length (sSeq (sFor (itEnum (eVar 0)) _ _) _ [some (.p (.lst (nums (bitsL near)))), none, none, none] S') = _
    rw [sSeq_eq, sFor_eq, itEnum_p (xs := nums (bitsL near)) (S1 := S') rfl, go_ok, hl, e, thn_nx, sRet_eq, eC_eq, go_ok, endF_p, take_self]
  · rintro k i ρ S' hk ⟨rfl, a, b, rfl⟩
    have hi : i < n := by
      have hm := List.mem_of_getElem? hk
      exact List.mem_range.mp hm
    have ev : (nums (bitsL near)).getD i .non = .int ((bitsN (row near i) : Nat) : Int) := by
      rw [nums_getD (by rw [ints_length] at hl; omega), bitsL_at (by rw [h.len]; omega)]
    refine ⟨[some (.p (.lst (nums (bitsL near)))), some (.p (.int (i : Int))), some (.p (.int ((bitsN (row near i) : Nat) : Int))), none], S', [some (.p (.lst (nums (bitsL near)))), some (.p (.int (i : Int))), some (.p (.int ((bitsN (row near i) : Nat) : Int))), none], S', by rw [ev]; rfl, .inl ?_, rfl, _, _, rfl⟩
    have hs : ∀ B : Nat, bShr (B : Int) (i : Int) = true := fun B => decide_eq_true (by omega)
    have ht := shr_test (bitsN (row near i)) i
    rw [Int.toNat_natCast] at ht
    have hself : (bitsN (row near i)).testBit i = true := by
      rw [bits_test (near_nd h hi)]
      simpa using h.rfl_ i hi
    rw [hself, if_pos rfl] at ht
    have e1 : eLc (itOf (eFn m_indexes_of (aCons (eVar 2) aNil))) [3] (gNm 3) tsYes (eBin pNe (eBin (pI fun i j => Builtin.bitAnd i j) (eItem (eVar 0) (eVar 3)) (eUn pInv (eVar 2))) (eC (.int 0))) [some (.p (.lst (nums (bitsL near)))), some (.p (.int (i : Int))), some (.p (.int ((bitsN (row near i) : Nat) : Int))), none] S' = .ok (.p (.lst (((row near i).map fun _ => false).map P.bl))) S' := by
      rw [eLc_genm (row near i) (fun (j : Nat) => P.int (j : Int)) (fun _ => .bl false) ?_ ?_ ?_]
      · rw [List.map_map]
        rfl
      · have := indexes_of_ok (near_bits h hi) hn S'
        rw [mem_bits (h.srt i hi) (h.lt i hi)] at this
        have ea : aCons (eVar 2) aNil [some (.p (.lst (nums (bitsL near)))), some (.p (.int (i : Int))), some (.p (.int ((bitsN (row near i) : Nat) : Int))), none] S' = .ok [.p (.int ((bitsN (row near i) : Nat) : Int))] S' := rfl
        rw [itOf_eq, eFn_eq, ea, bind_ok, this, bind_ok, frz_p, bind_ok, itemsP_lst]
        skip
      · have := nodup_len n _ (near_nd h hi) (h.lt i hi)
        omega
      · intro o ho
        have hon := h.lt i hi o ho
        refine ⟨[some (.p (.lst (nums (bitsL near)))), some (.p (.int (i : Int))), some (.p (.int ((bitsN (row near i) : Nat) : Int))), some (.p (.int (o : Int)))], rfl, ?_⟩
        have ea : atI (nums (bitsL near)) (o : Int) = some (.int ((bitsN (row near o) : Nat) : Int)) := by
          refine atN ?_
          have ol : o < (bitsL near).length := by rw [ints_length] at hl; omega
          rw [List.getElem?_map, List.getElem?_eq_getElem ol]
          have := bitsL_at (near := near) (i := o) (by rw [h.len]; omega)
          rw [← this]
          simp [ol]
        have inv : pInv (.int ((bitsN (row near i) : Nat) : Int)) = some (.int (Builtin.bitNot ((bitsN (row near i) : Nat) : Int))) := rfl
        simp only [eBin_eq, eItem_eq, eUn_eq, eVar_0, eVar_s, eC_eq, bind_ok, nv_p, ixV_p, op1_p, op2_pp, pIx_lst, ea, inv, ofO_some, pI_int, band_not, pNe_int, near_sub h hi ho]
        rfl
    have t0 : ((row near i).map fun _ => false).any id = false := by simp
    have f1 := eCall1_of (g := pAny) e1 (by rw [pAny_bls, t0])
    rw [sIf_eq, tOr_eq]
    have t1 : tVal (eBin pEq (eBin (pI fun i j => Builtin.bitAnd i j) (eBin (pIC bShr fun i j => i / 2 ^ j.toNat) (eVar 2) (eVar 1)) (eC (.int 1))) (eC (.int 0))) [some (.p (.lst (nums (bitsL near)))), some (.p (.int (i : Int))), some (.p (.int ((bitsN (row near i) : Nat) : Int))), none] S' = .ok false S' := by
      simp only [tVal_eq, eBin_eq, eVar_0, eVar_s, eC_eq, bind_ok, op2_pp, pIC_int, hs, if_true, ofO_some, pI_int, Int.toNat_natCast, ht, pEq_int, tst_bl]
      rfl
    rw [t1, bind_ok]
    dsimp only
    rw [tVal_eq, f1, bind_ok, tst_bl, go_ok]
    rfl
end Law

namespace Law
open PySem L2 Mir Pl
theorem map_getD {A : Type} (d : A) (l : List A) : ((List.range l.length).map fun i => l.getD i d) = l := by
  apply List.ext_getElem?
  intro i
  rw [List.getElem?_map]
  by_cases h : i < l.length
  · rw [List.getElem?_range h, List.getElem?_eq_getElem h]
    simp [h]
  · rw [List.getElem?_eq_none (by rw [List.length_range]; omega), List.getElem?_eq_none (by omega)]
    rfl
structure Spc (n : Nat) (order : List (List Nat)) (near : List (List Nat)) : Prop where
  len : order.length = n
  nd : order.Nodup
  nm : ∀ x ∈ order, NameOk x
  near : Near n near
  pos : 0 < n
  le : n ≤ 256
def rowAt (order near : List (List Nat)) (i : Nat) : List Nat := rowT (order.getD i []) (pick order (row near i))
def textT (n : Nat) (order near : List (List Nat)) : List Nat := TL.joinL [10] ((List.range n).map (rowAt order near))
section
variable {n : Nat} {order near : List (List Nat)} (h : Spc n order near)
include h
theorem Spc.at_ {i : Nat} (hi : i < n) : NameOk (order.getD i []) := h.nm _ (mem_getD (by rw [h.len]; exact hi))
theorem Spc.pk {i : Nat} (hi : i < n) : ∀ y ∈ pick order (row near i), NameOk y := fun y hy => by
  obtain ⟨j, hj, rfl⟩ := List.mem_map.mp hy
  exact h.at_ (h.near.lt i hi j hj)
theorem Spc.pk_len {i : Nat} (hi : i < n) : (pick order (row near i)).length ≤ n := by
  unfold pick
  rw [List.length_map]
  exact nodup_len n _ (near_nd h.near hi) (h.near.lt i hi)
theorem Spc.pk_ne {i : Nat} (hi : i < n) : pick order (row near i) ≠ [] := by
  unfold pick
  intro z
  have := List.map_eq_nil_iff.mp z
  have h2 := h.near.rfl_ i hi
  rw [this] at h2
  cases h2
theorem Spc.row_len {i : Nat} (hi : i < n) : (rowAt order near i).length ≤ 2400 := by
  have h1 := rowT_len (h.at_ hi).len fun y hy => (h.pk hi y hy).len
  have h2 := h.pk_len hi
  have h3 := h.le
  unfold rowAt
  omega
theorem joinL_mem {c : Nat} {s : List Nat} (hs : c ∉ s) : ∀ {l : List (List Nat)}, (∀ x ∈ l, c ∉ x) → c ∉ TL.joinL s l
  | [], _ => by simp [TL.joinL]
  | [p], hl => by simpa [TL.joinL] using hl p List.mem_cons_self
  | p :: q :: r, hl => by
    have ih := joinL_mem hs (l := q :: r) fun x hx => hl x (List.mem_cons_of_mem _ hx)
    have h0 := hl p List.mem_cons_self
    show c ∉ p ++ (s ++ TL.joinL s (q :: r))
    simp only [List.mem_append, not_or]
    exact ⟨h0, hs, ih⟩
theorem Spc.row_10 {i : Nat} (hi : i < n) : 10 ∉ rowAt order near i := by
  unfold rowAt rowT
  have h1 := (h.at_ hi).c10
  have h2 := joinL_mem h (c := 10) (s := [32]) (by decide) fun x hx => (h.pk hi x hx).c10
  simp only [List.mem_append, not_or]
  exact ⟨h1, by decide, h2⟩
theorem Spc.split : TL.spl [10] 0 [] (textT n order near) = (List.range n).map (rowAt order near) := by
  refine TL.spl_join ?_ fun p hp => ?_
  · intro z
    have := List.map_eq_nil_iff.mp z
    have hl := congrArg List.length this
    rw [List.length_range] at hl
    have := h.pos
    simp at hl
    omega
  · obtain ⟨i, hi, rfl⟩ := List.mem_map.mp hp
    exact h.row_10 (List.mem_range.mp hi)
theorem Spc.text_len : (textT n order near).length ≤ 1000000 := by
  have h1 := joinL_len [10] ((List.range n).map (rowAt order near))
  have h2 := sum_len_le (c := 2400) (l := (List.range n).map (rowAt order near)) fun x hx => by
    obtain ⟨i, hi, rfl⟩ := List.mem_map.mp hx
    have hi := List.mem_range.mp hi
    have a := rowT_len (h.at_ hi).len fun y hy => (h.pk hi y hy).len
    have b := h.pk_len hi
    have c := h.le
    show (rowT (order.getD i []) (pick order (row near i))).length ≤ 2400
    omega
  rw [List.length_map, List.length_range] at h1 h2
  have := h.le
  unfold textT
  simp only [List.length_cons, List.length_nil] at h1
  omega
end
end Law

namespace Law
open PySem L2 Mir Pl
theorem dat_txts {l : List (List Nat)} (h : ∀ x ∈ l, (x.all fun c => decide (c < 128)) = true) (m : Nat) : datL (txts l) m = true := by
  induction l with
  | nil => rfl
  | cons a l ih =>
    show ((P.str a).dat m && datL (txts l) m) = true
    rw [ih fun x hx => h x (List.mem_cons_of_mem _ hx)]
    have : (P.str a).dat m = true := by
      have e : (P.str a).dat m = a.all fun c => decide (c < 128) := by cases m <;> rfl
      rw [e]; exact h a List.mem_cons_self
    rw [this]
    rfl
theorem datL_map {A : Type} {f : A → P} {m : Nat} : ∀ {l : List A}, (∀ x ∈ l, (f x).dat m = true) → datL (l.map f) m = true
  | [], _ => rfl
  | a :: l, h => by
    show ((f a).dat m && datL (l.map f) m) = true
    rw [h a List.mem_cons_self, datL_map fun x hx => h x (List.mem_cons_of_mem _ hx)]
    rfl
def rowP (order near : List (List Nat)) (i : Nat) : P := .tup [.str (order.getD i []), .lst (txts (pick order (row near i)))]
theorem merge_ok {order : List (List Nat)} (vs : Nat → P) (nd : order.Nodup) : ∀ (is : List Nat) (ks xs : List P) (done : List (List Nat)), ks = txts done → (done ++ is.map fun i => order.getD i []).Nodup →
    ∃ xs', mergeP (is.map fun i => P.tup [.str (order.getD i []), vs i]) ks xs = some (txts (done ++ is.map fun i => order.getD i []), xs')
  | [], ks, xs, done, hk, _ => ⟨xs, by rw [hk]; show some (_, _) = _; rw [List.map_nil, List.append_nil]⟩
  | i :: is, ks, xs, done, hk, hd => by
    have hnot : order.getD i [] ∉ done := by
      rw [List.map_cons, List.nodup_append] at hd
      intro z
      exact hd.2.2 _ z _ List.mem_cons_self rfl
    have hany : (ks.any fun a => keq a (.str (order.getD i []))) = false := by
      rw [hk]
      unfold txts
      rw [List.any_map, List.any_eq_false]
      intro x hx
      show ¬ ((x == order.getD i []) = true)
      simp only [beq_iff_eq]
      intro z
      rw [← z] at hnot
      exact hnot hx
    have hp : dPutK (.str (order.getD i [])) ks = txts (done ++ [order.getD i []]) := by
      unfold dPutK
      rw [hany, if_neg (by decide), hk]
      unfold txts
      rw [List.map_append]
      rfl
    obtain ⟨xs', e⟩ := merge_ok vs nd is _ (dPutV (.str (order.getD i [])) (vs i) ks xs) (done ++ [order.getD i []]) hp (by
      rw [List.append_assoc]
      exact hd)
    refine ⟨xs', ?_⟩
    rw [List.map_cons]
    show mergeP (is.map fun i => P.tup [.str (order.getD i []), vs i]) (dPutK (.str (order.getD i [])) ks) (dPutV (.str (order.getD i [])) (vs i) ks xs) = _
    rw [e, List.append_assoc]
    rfl
section
variable {n : Nat} {order near : List (List Nat)} (h : Spc n order near)
include h
theorem Spc.ordr : ((List.range n).map fun i => order.getD i []) = order := by
  have := map_getD ([] : List Nat) order
  rw [h.len] at this
  exact this
theorem Spc.dict : ∃ vs, pDictP [.lst ((List.range n).map (rowP order near))] = some (.dct (txts order) vs) := by
  obtain ⟨xs, e⟩ := merge_ok (order := order) (fun i => .lst (txts (pick order (row near i)))) h.nd (List.range n) [] [] [] rfl (by rw [List.nil_append, h.ordr]; exact h.nd)
  rw [List.nil_append, h.ordr] at e
  refine ⟨xs, ?_⟩
  show (mergeP ((List.range n).map (rowP order near)) [] []).map (fun q => P.dct q.1 q.2) = _
  have : ((List.range n).map (rowP order near)) = (List.range n).map fun i => P.tup [.str (order.getD i []), .lst (txts (pick order (row near i)))] := rfl
  rw [this, e]
  rfl
theorem Spc.none_in : pIn2 .non (.lst ((List.range n).map (rowP order near))) = some (.bl false) := by
  have hd : (P.lst ((List.range n).map (rowP order near))).dat 60 = true := by
    show datL ((List.range n).map (rowP order near)) 59 = true
    refine datL_map fun i hi => ?_
    have hi := List.mem_range.mp hi
    show ((P.str (order.getD i [])).dat 58 && (datL (txts (pick order (row near i))) 57 && true)) = true
    rw [dat_txts fun x hx => (h.pk hi x hx).asc]
    have : (P.str (order.getD i [])).dat 58 = true := (h.at_ hi).asc
    rw [this]
    rfl
  have hin : inP .non ((List.range n).map (rowP order near)) = false := by
    unfold inP
    rw [List.any_map, List.any_eq_false]
    intro i _
    show ¬ (false = true)
    decide
  have hf : (((List.range n).map (rowP order near)).all flatP) = false := by
    obtain ⟨m, rfl⟩ := Nat.exists_eq_add_of_le h.pos
    rw [Nat.add_comm, List.range_succ_eq_map]
    rfl
  unfold pIn2
  have e1 : pIn .non (.lst ((List.range n).map (rowP order near))) = none := by
    show (if flatP .non && ((List.range n).map (rowP order near)).all flatP then some (P.bl (inP .non ((List.range n).map (rowP order near)))) else none) = none
    rw [hf]
    rfl
  rw [e1]
  show (if P.non.dat 60 && (P.lst ((List.range n).map (rowP order near))).dat 60 then some (P.bl (inP .non ((List.range n).map (rowP order near)))) else none) = _
  rw [hd, hin]
  rfl
end
end Law

namespace Law
open PySem L2 Mir Pl
section
variable {n : Nat} {order near : List (List Nat)} (h : Spc n order near)
include h
theorem read_space_ok (S : Sto) : m_read_space [.p (.str (textT n order near))] S = .ok (.p (.tup [.lst (txts order), .lst (nums (bitsL near))])) S := by
  generalize hrows : ((List.range n).map (rowP order near)) = rows
  have hle := h.le
  have hrl : rows.length = n := by rw [← hrows, List.length_map, List.length_range]
  -- the rows
  have e1 : eLc (itOf (eMthT "str" pSplit (eVar 0) (aCons (eC (.str [10])) aNil))) [4] (gNm 4) tsYes (eFn m_read_row (aCons (eVar 4) aNil)) [some (.p (.str (textT n order near))), none, none, none, none, none, none] S = .ok (.p (.lst rows)) S := by
    rw [eLc_genm (List.range n) (fun i => P.str (rowAt order near i)) (rowP order near) ?_ ?_ ?_, hrows]
    · have sp := pSplit_of (x := textT n order near) (s := [10]) (by decide) (by decide) h.text_len
      rw [h.split] at sp
      simp [sp]
    · rw [List.length_range]; omega
    · intro i hi
      have hi := List.mem_range.mp hi
      refine ⟨[some (.p (.str (textT n order near))), none, none, none, some (.p (.str (rowAt order near i))), none, none], rfl, ?_⟩
      have ea : aCons (eVar 4) aNil [some (.p (.str (textT n order near))), none, none, none, some (.p (.str (rowAt order near i))), none, none] S = .ok [.p (.str (rowAt order near i))] S := rfl
      rw [eFn_eq, ea, bind_ok]
      have hp := h.pk_len hi
      exact read_row_ok (h.at_ hi) (h.pk_ne hi) (h.pk hi) (by omega) S
  -- the order
  have gT : ∀ (a b c : Nat) (i : Nat) (ρ : En), gTp 2 (gCn (gNm a) (gCn (gNm b) gNl)) (.p (rowP order near i)) ρ S = .ok ((ρ.set a (some (.p (.str (order.getD i []))))).set b (some (.p (.lst (txts (pick order (row near i))))))) S := fun a b c i ρ => rfl
  have e2 : eLc (itOf (eVar 1)) [5, 3] (gTp 2 (gCn (gNm 5) (gCn (gNm 3) gNl))) tsYes (eVar 5) [some (.p (.str (textT n order near))), some (.p (.lst rows)), none, none, none, none, none] S = .ok (.p (.lst (txts order))) S := by
    rw [eLc_genm (List.range n) (rowP order near) (fun i => .str (order.getD i [])) ?_ ?_ ?_]
    · have := h.ordr
      have e : ((List.range n).map fun i => P.str (order.getD i [])) = txts ((List.range n).map fun i => order.getD i []) := by
        unfold txts
        rw [List.map_map]
        rfl
      rw [e, this]
    · rw [hrows]; simp
    · rw [List.length_range]; omega
    · intro i hi
      exact ⟨_, gT 5 3 0 i _, rfl⟩
  -- the checks
  have e3 : eLc (itOf (eVar 1)) [5, 3] (gTp 2 (gCn (gNm 5) (gCn (gNm 3) gNl))) tsYes (eFn m_is_ordered (aCons (eVar 2) (aCons (eVar 3) aNil))) [some (.p (.str (textT n order near))), some (.p (.lst rows)), some (.p (.lst (txts order))), none, none, none, none] S = .ok (.p (.lst (((List.range n).map fun _ => true).map P.bl))) S := by
    rw [eLc_genm (List.range n) (rowP order near) (fun _ => .bl true) ?_ ?_ ?_]
    · rw [List.map_map]; rfl
    · rw [hrows]; simp
    · rw [List.length_range]; omega
    · intro i hi
      have hi := List.mem_range.mp hi
      refine ⟨_, gT 5 3 0 i _, ?_⟩
      have ea : aCons (eVar 2) (aCons (eVar 3) aNil) [some (.p (.str (textT n order near))), some (.p (.lst rows)), some (.p (.lst (txts order))), some (.p (.lst (txts (pick order (row near i))))), none, some (.p (.str (order.getD i []))), none] S = .ok [.p (.lst (txts order)), .p (.lst (txts (pick order (row near i))))] S := rfl
      have eo := is_ordered_ok (b := true) h.nd (fun j hj => by rw [h.len]; exact h.near.lt i hi j hj) (h.near.srt i hi) (by have := nodup_len n _ (near_nd h.near hi) (h.near.lt i hi); omega) S
      rw [eFn_eq]
      exact (congrArg (fun r => Res.bind r m_is_ordered) ea).trans eo
  have e4 : eLc (itOf (eVar 1)) [5, 6] (gTp 2 (gCn (gNm 5) (gCn (gNm 6) gNl))) tsYes (eFn m_bits_of (aCons (eVar 2) (aCons (eVar 6) aNil))) [some (.p (.str (textT n order near))), some (.p (.lst rows)), some (.p (.lst (txts order))), none, none, none, none] S = .ok (.p (.lst (nums (bitsL near)))) S := by
    rw [eLc_genm (List.range n) (rowP order near) (fun i => .int ((bitsN (row near i) : Nat) : Int)) ?_ ?_ ?_]
    · have e : bitsL near = (List.range n).map fun i => bitsN (row near i) := by
        have := map_getD ([] : List Nat) near
        rw [h.near.len] at this
        unfold bitsL
        rw [← this, List.map_map]
        apply List.map_congr_left
        intro i hi
        show bitsN (near.getD i []) = bitsN (row ((List.range n).map fun i => near.getD i []) i)
        rw [this]
        rfl
      rw [e]
      unfold nums
      rw [List.map_map]
      rfl
    · rw [hrows]; simp
    · rw [List.length_range]; omega
    · intro i hi
      have hi := List.mem_range.mp hi
      refine ⟨_, gT 5 6 0 i _, ?_⟩
      have ea : aCons (eVar 2) (aCons (eVar 6) aNil) [some (.p (.str (textT n order near))), some (.p (.lst rows)), some (.p (.lst (txts order))), none, none, some (.p (.str (order.getD i []))), some (.p (.lst (txts (pick order (row near i)))))] S = .ok [.p (.lst (txts order)), .p (.lst (txts (pick order (row near i))))] S := rfl
      have eo := bits_of_ok (b := true) (l := row near i) h.nd (fun j hj => by rw [h.len]; exact h.near.lt i hi j hj) (by have := nodup_len n _ (near_nd h.near hi) (h.near.lt i hi); omega) (by rw [h.len]; omega) S
      rw [eFn_eq]
      exact (congrArg (fun r => Res.bind r m_bits_of) ea).trans eo
  have ti : tVal (eBin pIn2 (eC .non) (eVar 1)) [some (.p (.str (textT n order near))), some (.p (.lst rows)), none, none, none, none, none] S = .ok false S := by
    have := h.none_in
    rw [hrows] at this
    simp [this]
  have tl : tVal (eBin (pIB fun i j => decide (j < i)) (eCall pLen (aCons (eVar 1) aNil)) (eC (.int 256))) [some (.p (.str (textT n order near))), some (.p (.lst rows)), none, none, none, none, none] S = .ok false S := by
    simp [hrl]
    omega
  obtain ⟨vs, dd⟩ := h.dict
  rw [hrows] at dd
  have td : tVal (eBin pNe (eCall pLen (aCons (eCall pDictP (aCons (eVar 1) aNil)) aNil)) (eCall pLen (aCons (eVar 1) aNil))) [some (.p (.str (textT n order near))), some (.p (.lst rows)), some (.p (.lst (txts order))), none, none, none, none] S = .ok false S := by
    have ld : pLen [.dct (txts order) vs] = some (.int ((n : Nat) : Int)) := by
      show some (P.int ((txts order).length : Int)) = _
      rw [strs_length, h.len]
    simp [dd, ld, hrl]
  have ta : tNotM (tVal (eCall pAll (aCons (eLc (itOf (eVar 1)) [5, 3] (gTp 2 (gCn (gNm 5) (gCn (gNm 3) gNl))) tsYes (eFn m_is_ordered (aCons (eVar 2) (aCons (eVar 3) aNil)))) aNil))) [some (.p (.str (textT n order near))), some (.p (.lst rows)), some (.p (.lst (txts order))), none, none, none, none] S = .ok false S := by
    have t3 : ((List.range n).map fun _ => true).all id = true := by simp
    rw [tNot_eq, tVal_eq, eCall1_of e3 (by rw [pAll_bls, t3]), bind_ok, tst_bl, bind_ok]
    rfl
  have see := is_seeing_ok h.near (by omega) S
  have tS : tVal (eFn m_is_seeing (aCons (eVar 3) aNil)) [some (.p (.str (textT n order near))), some (.p (.lst rows)), some (.p (.lst (txts order))), some (.p (.lst (nums (bitsL near)))), none, none, none] S = .ok true S := by
    have ea : aCons (eVar 3) aNil [some (.p (.str (textT n order near))), some (.p (.lst rows)), some (.p (.lst (txts order))), some (.p (.lst (nums (bitsL near)))), none, none, none] S = .ok [.p (.lst (nums (bitsL near)))] S := rfl
    rw [tVal_eq, eFn_eq, ea, bind_ok, see, bind_ok, tst_bl]
  unfold m_read_space b_read_space
  rw [mkF_eq 1 6 _ [.p (.str (textT n order near))] S rfl]
  show endF S.length (sSeq _ _ [some (.p (.str (textT n order near))), none, none, none, none, none, none] S) = _
  rw [sSeq_eq, sAsg_eq, e1, go_ok, gNm_eq, nox_ok, go_ok, thn_nx]
  show endF S.length (sSeq _ _ [some (.p (.str (textT n order near))), some (.p (.lst rows)), none, none, none, none, none] S) = _
  rw [sSeq_eq, sIf_eq, tOr_eq, ti, bind_ok]
  dsimp only
  rw [tl, go_ok]
  dsimp only
  rw [sPass_eq, thn_nx, sSeq_eq, sAsg_eq, e2, go_ok, gNm_eq, nox_ok, go_ok, thn_nx]
  show endF S.length (sSeq _ _ [some (.p (.str (textT n order near))), some (.p (.lst rows)), some (.p (.lst (txts order))), none, none, none, none] S) = _
  rw [sSeq_eq, sIf_eq, tOr_eq, td, bind_ok]
  dsimp only
  rw [ta, go_ok]
  dsimp only
  rw [sPass_eq, thn_nx, sSeq_eq, sAsg_eq, e4, go_ok, gNm_eq, nox_ok, go_ok, thn_nx]
  show endF S.length (sRet _ [some (.p (.str (textT n order near))), some (.p (.lst rows)), some (.p (.lst (txts order))), some (.p (.lst (nums (bitsL near)))), none, none, none] S) = _
  rw [sRet_eq, eIf_eq, tS, bind_ok]
  simp
end
end Law

namespace Mir
open PySem
theorem putN_new {f : Str} : ∀ {ns : List Str}, f ∉ ns → putN f ns = ns ++ [f]
  | [], _ => rfl
  | n :: ns, h => by
    show (if n = f then n :: ns else n :: putN f ns) = _
    rw [if_neg (fun z => h (by rw [z]; exact List.mem_cons_self)), putN_new fun z => h (List.mem_cons_of_mem _ z)]
    rfl
theorem putX_new {A : Type} {f : Str} {a : A} : ∀ {ns : List Str} {xs : List A}, f ∉ ns → ns.length = xs.length → putX f a ns xs = xs ++ [a]
  | [], [], _, _ => rfl
  | [], _ :: _, _, h => by cases h
  | _ :: _, [], _, h => by cases h
  | n :: ns, x :: xs, h, hl => by
    show (if n = f then a :: xs else x :: putX f a ns xs) = _
    rw [if_neg (fun z => h (by rw [z]; exact List.mem_cons_self)), putX_new (fun z => h (List.mem_cons_of_mem _ z)) (by simpa using hl)]
    rfl
theorem fSet_end {c f : Str} {S : Sto} {ns : List Str} {xs : List Vl} {x : P} (h : f ∉ ns) (hl : ns.length = xs.length) (hn : ns.length < 1000) : fSet c f (.c S.length) (.p x) (S ++ [.ins c ns xs]) = .ok () (S ++ [.ins c (ns ++ [f]) (xs ++ [.p x])]) := by
  show putC c f S.length (.p x) (S ++ [.ins c ns xs]) = _
  unfold putC
  have e : (S ++ [Cell.ins c ns xs])[S.length]? = some (.ins c ns xs) := by simp
  rw [e]
  dsimp only
  rw [if_pos ⟨rfl, hn⟩, putN_new h, putX_new h hl]
  simp
end Mir
namespace Law
open PySem L2 Mir Pl
def spcP (n : Nat) (order near : List (List Nat)) : P := .obj "Space" ["told", "order", "seen"] [.str (textT n order near), .lst (txts order), .lst (nums (bitsL near))]
section
variable {n : Nat} {order near : List (List Nat)} (h : Spc n order near)
include h
theorem make_ok (S : Sto) : mkO false "Space" m_Space___init__ [.p (.str (textT n order near))] S = .ok (.p (spcP n order near)) S := by
  have hk : (S ++ [Cell.ins "Space" [] []])[S.length]? = some (.ins "Space" [] []) := by simp
  have rs := read_space_ok h (S ++ [Cell.ins "Space" [] []])
  have ei : eIsi isiCs (eVar 1) (eC (.ty "str")) [some (.c S.length), some (.p (.str (textT n order near))), none] (S ++ [Cell.ins "Space" [] []]) = .ok (.p (.bl true)) (S ++ [Cell.ins "Space" [] []]) := rfl
  have e1 : eIfM (tVal (eIsi isiCs (eVar 1) (eC (.ty "str")))) (eFn m_read_space (aCons (eVar 1) aNil)) (eC .non) [some (.c S.length), some (.p (.str (textT n order near))), none] (S ++ [Cell.ins "Space" [] []]) = .ok (.p (.tup [.lst (txts order), .lst (nums (bitsL near))])) (S ++ [Cell.ins "Space" [] []]) := by
    have ea : aCons (eVar 1) aNil [some (.c S.length), some (.p (.str (textT n order near))), none] (S ++ [Cell.ins "Space" [] []]) = .ok [.p (.str (textT n order near))] (S ++ [Cell.ins "Space" [] []]) := rfl
    rw [eIf_eq, tVal_eq, ei, bind_ok, tst_bl, bind_ok]
    dsimp only
    rw [eFn_eq, ea, bind_ok, rs]
  have body : b_Space___init__ [some (.c S.length), some (.p (.str (textT n order near))), none] (S ++ [Cell.ins "Space" [] []]) = .ok (.nx [some (.c S.length), some (.p (.str (textT n order near))), some (.p (.tup [.lst (txts order), .lst (nums (bitsL near))]))]) (S ++ [Cell.ins "Space" ["told", "order", "seen"] [.p (.str (textT n order near)), .p (.lst (txts order)), .p (.lst (nums (bitsL near)))]]) := by
    unfold b_Space___init__
    rw [sSeq_eq, sAsg_eq, e1, go_ok, gNm_eq, nox_ok, go_ok, thn_nx]
    generalize textT n order near = tx
    simp [isN]
    rw [fSet_end (by decide) rfl (by decide)]
    simp
    rw [fSet_end (by decide) rfl (by decide)]
    simp
    rw [fSet_end (by decide) rfl (by decide)]
    simp
  unfold mkO m_Space___init__
  rw [mkF_eq 2 1 _ [.c S.length, .p (.str (textT n order near))] _ rfl]
  show endO false S.length (endF _ (b_Space___init__ [some (.c S.length), some (.p (.str (textT n order near))), none] _)) = _
  rw [body, endF_nx]
  have tk : (S ++ [Cell.ins "Space" ["told", "order", "seen"] [.p (.str (textT n order near)), .p (.lst (txts order)), .p (.lst (nums (bitsL near)))]]).take (S ++ [Cell.ins "Space" [] []]).length = S ++ [Cell.ins "Space" ["told", "order", "seen"] [.p (.str (textT n order near)), .p (.lst (txts order)), .p (.lst (nums (bitsL near)))]] := List.take_of_length_le (by simp)
  rw [tk]
  unfold endO
  dsimp only
  have hk2 : (S ++ [Cell.ins "Space" ["told", "order", "seen"] [.p (.str (textT n order near)), .p (.lst (txts order)), .p (.lst (nums (bitsL near)))]])[S.length]? = some (.ins "Space" ["told", "order", "seen"] [.p (.str (textT n order near)), .p (.lst (txts order)), .p (.lst (nums (bitsL near)))]) := by simp
  have fr : frz (.c S.length) (S ++ [Cell.ins "Space" ["told", "order", "seen"] [.p (.str (textT n order near)), .p (.lst (txts order)), .p (.lst (nums (bitsL near)))]]) = .ok (spcP n order near) ((S ++ [Cell.ins "Space" ["told", "order", "seen"] [.p (.str (textT n order near)), .p (.lst (txts order)), .p (.lst (nums (bitsL near)))]]).set S.length (.fz (spcP n order near))) := by
    unfold frz frzN
    dsimp only
    rw [hk2]
    dsimp only
    show ((Res.ok [P.str (textT n order near), .lst (txts order), .lst (nums (bitsL near))] _).bind _) = _
    rw [bind_ok, hk2]
    dsimp only
    rw [if_pos ⟨rfl, rfl⟩]
    rfl
  rw [fr, bind_ok]
  simp
end
end Law

namespace Law
open PySem L2 Mir Pl
def nearP (near : List (List Nat)) : P := .lst (near.map fun l => P.lst (nums l))
theorem atI_txts {order : List (List Nat)} {i : Nat} (hi : i < order.length) : atI (txts order) (i : Int) = some (.str (order.getD i [])) := by
  refine atN ?_
  unfold txts
  rw [List.getElem?_map, List.getElem?_eq_getElem hi]
  simp [hi]
theorem atI_near {near : List (List Nat)} {i : Nat} (hi : i < near.length) : atI (near.map fun l => P.lst (nums l)) (i : Int) = some (.lst (nums (row near i))) := by
  refine atN ?_
  rw [List.getElem?_map, List.getElem?_eq_getElem hi]
  unfold row
  simp [hi]
section
variable {n : Nat} {order near : List (List Nat)} (h : Spc n order near)
include h
end
end Law

namespace Law
open PySem L2 Mir Pl
theorem fld_order (n : Nat) (order near : List (List Nat)) (S : Sto) : fldV "Space" "order" (.p (spcP n order near)) S = .ok (.p (.lst (txts order))) S := by
  unfold fldV spcP
  dsimp only
  rw [if_pos rfl]
  unfold fldOf
  rw [if_neg (by decide)]
  unfold fldOf
  rw [if_pos rfl]
theorem fld_seen (n : Nat) (order near : List (List Nat)) (S : Sto) : fldV "Space" "seen" (.p (spcP n order near)) S = .ok (.p (.lst (nums (bitsL near)))) S := by
  unfold fldV spcP
  dsimp only
  rw [if_pos rfl]
  unfold fldOf
  rw [if_neg (by decide)]
  unfold fldOf
  rw [if_neg (by decide)]
  unfold fldOf
  rw [if_pos rfl]
theorem fld_told (n : Nat) (order near : List (List Nat)) (S : Sto) : fldV "Space" "told" (.p (spcP n order near)) S = .ok (.p (.str (textT n order near))) S := by
  unfold fldV spcP
  dsimp only
  rw [if_pos rfl]
  unfold fldOf
  rw [if_pos rfl]
structure Lot (n : Nat) (l : List Nat) : Prop where
  srt : l.Pairwise (· < ·)
  lt : ∀ e ∈ l, e < n
theorem Lot.nd {n : Nat} {l : List Nat} (h : Lot n l) : l.Nodup := h.srt.imp fun z => Nat.ne_of_lt z
theorem Lot.len {n : Nat} {l : List Nat} (h : Lot n l) : l.length ≤ n := nodup_len n l h.nd h.lt
theorem Lot.bits {n : Nat} {l : List Nat} (h : Lot n l) : bitsN l < 2 ^ n := bits_lt h.nd h.lt
theorem lot_mem (n B : Nat) : Lot n (mem_ n B) := ⟨(range_sorted n).filter _, fun e he => List.mem_range.mp (List.mem_filter.mp he).1⟩
abbrev setP (order : List (List Nat)) (l : List Nat) : P := .tup (txts (pick order l))
section
variable {n : Nat} {order near : List (List Nat)} (h : Spc n order near)
include h
theorem names_of_ok {B : Nat} (hB : B < 2 ^ n) (S : Sto) : m_names_of [.p (spcP n order near), .p (.int (B : Int))] S = .ok (.p (setP order (mem_ n B))) S := by
  have hle := h.le
  have e1 : eLc (itOf (eFn m_indexes_of (aCons (eVar 1) aNil))) [2] (gNm 2) tsYes (eItem (eFld "Space" "order" (eVar 0)) (eVar 2)) [some (.p (spcP n order near)), some (.p (.int (B : Int))), none] S = .ok (.p (.lst (txts (pick order (mem_ n B))))) S := by
    rw [eLc_genm (mem_ n B) (fun (j : Nat) => P.int (j : Int)) (fun j => .str (order.getD j [])) ?_ ?_ ?_]
    · unfold txts pick
      rw [List.map_map]
      rfl
    · have ea : aCons (eVar 1) aNil [some (.p (spcP n order near)), some (.p (.int (B : Int))), none] S = .ok [.p (.int (B : Int))] S := rfl
      rw [itOf_eq, eFn_eq, ea, bind_ok, indexes_of_ok hB (by omega) S, bind_ok, frz_p, bind_ok, itemsP_lst]
      skip
    · have := (lot_mem n B).len
      omega
    · intro j hj
      have hjn := (lot_mem n B).lt j hj
      refine ⟨[some (.p (spcP n order near)), some (.p (.int (B : Int))), some (.p (.int (j : Int)))], rfl, ?_⟩
      have ea := atI_txts (order := order) (i := j) (by rw [h.len]; exact hjn)
      rw [eItem_eq, eFld_eq, eVar_0, bind_ok, nv_p, fld_order, bind_ok]
      show ixV (nv S (.p (.lst (txts order)))) (.p (.int (j : Int))) S = _
      rw [nv_p, ixV_p, op2_pp, pIx_lst, ea, ofO_some]
  unfold m_names_of b_names_of
  rw [mkF_eq 2 1 _ [.p (spcP n order near), .p (.int (B : Int))] S rfl]
  show endF S.length (sRet (eCall pTuple (aCons _ aNil)) [some (.p (spcP n order near)), some (.p (.int (B : Int))), none] S) = _
  rw [sRet_eq, eCall1_of e1 (pTuple_lst _), go_ok, endF_p, take_self]
  skip
end
end Law

namespace Pl
end Pl
namespace Law
open PySem L2 Mir Pl
section
variable {n : Nat} {order near : List (List Nat)} (h : Spc n order near)
include h
end
end Law

namespace Pl
section
variable {n : Nat} {near : List (List Nat)} {l m : List Nat} {k : Nat}
open Law
variable (h : Near n near)
include h
end
end Pl

local macro_rules | `(tactic| exists cell_run) => `(tactic| first | with_reducible assumption | with_reducible exact Mir.cell0 | with_reducible exact Mir.cell1 | with_reducible exact Mir.cell2)
local macro_rules | `(tactic| exists sd_run) => `(tactic| first | assumption | omega | decide | solve_by_elim (transparency := .reducible) only [*] | (focus have := List.mem_range.mp (by assumption); omega) | (focus simp; done) | (focus simp; omega))
local macro_rules | `(tactic| exists op_run) => `(tactic| first
  | with_reducible assumption
  | with_reducible exact Mir.op_addN1 | with_reducible exact Mir.op_add1N | with_reducible exact Mir.op_addN | with_reducible exact Mir.op_add
  | (with_reducible apply Mir.op_addS) <;> exists sd_run | (with_reducible apply Mir.op_addLm) <;> exists sd_run | (with_reducible apply Mir.op_addTm) <;> exists sd_run | (with_reducible apply Mir.op_addL) <;> exists sd_run | (with_reducible apply Mir.op_addT) <;> exists sd_run
  | ((with_reducible apply Mir.op_sub1) <;> exists sq_run) | ((with_reducible apply Mir.op_subN) <;> exists sq_run) | ((with_reducible apply Mir.op_modN) <;> exists sq_run) | with_reducible exact Mir.op_int | with_reducible exact Mir.op_neg1 | with_reducible exact Mir.op_neg | with_reducible exact Mir.op_mul2 | with_reducible exact Mir.op_init | with_reducible exact Mir.op_eqL1
  | with_reducible exact Mir.op_band | with_reducible exact Mir.op_bandnot | with_reducible exact Mir.op_and1 | with_reducible exact Mir.op_pI | with_reducible exact Mir.op_inv
  | (with_reducible apply Mir.op_shl) <;> exists sd_run | with_reducible exact Mir.op_shr
  | with_reducible exact Mir.op_eqB | with_reducible exact Mir.op_neB | with_reducible exact Mir.op_niB | with_reducible exact Mir.op_is | with_reducible exact Mir.op_isNot
  | with_reducible exact Mir.op_eqB1 | with_reducible exact Mir.op_eqB0 | with_reducible exact Mir.op_eqN | with_reducible exact Mir.op_neN | with_reducible exact Mir.op_eqN0 | with_reducible exact Mir.op_neN0 | (with_reducible apply Mir.op_eqX) <;> exists dat_run | (with_reducible apply Mir.op_neX) <;> exists dat_run | ((with_reducible apply Mir.eqc_t); exact rfl) | ((with_reducible apply Mir.eqc_f); exact rfl) | ((with_reducible apply Mir.nec_t); exact rfl) | ((with_reducible apply Mir.nec_f); exact rfl) | with_reducible exact Mir.op_eqI | with_reducible exact Mir.op_neI
  | with_reducible exact Mir.op_ltN | with_reducible exact Mir.op_leN | with_reducible exact Mir.op_gtN | with_reducible exact Mir.op_geN | with_reducible exact Mir.op_pIB
  | (with_reducible apply Mir.op_neL0) <;> exists sd_run | (with_reducible apply Mir.op_eqL0) <;> exists sd_run | (with_reducible apply Mir.op_neT0) <;> exists sd_run | (with_reducible apply Mir.op_eqT0) <;> exists sd_run
  | ((with_reducible apply Mir.op_reprL) <;> exists dat_run)
  | (with_reducible apply Mir.op_eqX) <;> exists dat_run | (with_reducible apply Mir.op_neX) <;> exists dat_run
  | ((with_reducible apply Mir.eqc_t); exact rfl) | ((with_reducible apply Mir.eqc_f); exact rfl) | ((with_reducible apply Mir.nec_t); exact rfl) | ((with_reducible apply Mir.nec_f); exact rfl)
  | (with_reducible apply Mir.op_eqS) <;> exists sd_run | (with_reducible apply Mir.op_neS) <;> exists sd_run
  | (with_reducible apply Mir.op_eqTS) <;> exists sd_run | (with_reducible apply Mir.op_neTS) <;> exists sd_run
  | with_reducible exact Mir.op_inSL' | with_reducible exact Mir.op_inST' | with_reducible exact Mir.op_inNL' | with_reducible exact Mir.op_niSL' | with_reducible exact Mir.op_niST' | with_reducible exact Mir.op_niNL'
  | with_reducible exact Mir.op_inSL | with_reducible exact Mir.op_inST | with_reducible exact Mir.op_inNL | with_reducible exact Mir.op_niSL | with_reducible exact Mir.op_niST | with_reducible exact Mir.op_niNL
  | ((with_reducible apply Mir.inc_t); exact rfl) | ((with_reducible apply Mir.inc_f); exact rfl) | ((with_reducible apply Mir.nic_t); exact rfl) | ((with_reducible apply Mir.nic_f); exact rfl)
  | with_reducible exact Mir.op_lenLm | with_reducible exact Mir.op_lenTm | with_reducible exact Mir.op_lenL | with_reducible exact Mir.op_lenT | (with_reducible apply Mir.op_lenS) <;> exists sd_run
  | with_reducible exact Mir.op_tupL | with_reducible exact Mir.op_tupT | with_reducible exact Mir.op_lstL | with_reducible exact Mir.op_lstT
  | with_reducible exact Mir.op_sum | with_reducible exact Mir.op_all | with_reducible exact Mir.op_all2 | with_reducible exact Mir.op_any
  | with_reducible exact Mir.ix_l0 | with_reducible exact Mir.ix_l1 | with_reducible exact Mir.ix_l2 | with_reducible exact Mir.ix_l3 | with_reducible exact Mir.ix_l4 | with_reducible exact Mir.ix_l5 | with_reducible exact Mir.ix_t0 | with_reducible exact Mir.ix_t1 | with_reducible exact Mir.ix_t2 | with_reducible exact Mir.ix_t3
  | (with_reducible apply Mir.ix_ls) <;> exists sd_run | (with_reducible apply Mir.ix_ln) <;> exists sd_run | (with_reducible apply Mir.ix_ts) <;> exists sd_run | (with_reducible apply Mir.ix_lm) <;> exists sd_run
  | with_reducible assumption)
local macro_rules | `(tactic| exists call_run) => `(tactic| first | with_reducible assumption | (apply_assumption (transparency := .reducible) only [*] <;> first | with_reducible assumption | omega))
local macro_rules | `(tactic| exists rd_run) => `(tactic| first | with_reducible exact Mir.rd_p _ _ | with_reducible exact Mir.rds_nil _ | (with_reducible apply Mir.rds_c) <;> exists rd_run | exact Mir.rd_lst (by exists cell_run) | exact Mir.rd_fz (by exists cell_run))
local macro_rules | `(tactic| exists ev_run) => `(tactic| first
  | with_reducible exact Mir.ev_c
  | ((with_reducible apply Mir.ev_var); exact rfl)
  | with_reducible exact Mir.ev_anil
  | (with_reducible apply Mir.ev_acons) <;> exists ev_run
  | ((with_reducible apply Mir.ev_bin); exists ev_run; exists ev_run; exists rd_run; exists rd_run; exists op_run)
  | ((with_reducible apply Mir.ev_un); exists ev_run; exists rd_run; exists op_run)
  | ((with_reducible apply Mir.ev_item); exists ev_run; exists ev_run; exists ix_run)
  | ((with_reducible apply Mir.ev_call); exists ev_run; exists rd_run; exists op_run)
  | ((with_reducible apply Mir.ev_mth); exists ev_run; exists rd_run; exact rfl; exists ev_run; exists rd_run; exists rd_run; exists op_run)
  | ((with_reducible apply Mir.ev_fn); exists ev_run; exists call_run)
  | ((with_reducible apply Mir.ev_fnK); exists ev_run; exists ev_run; exact rfl; exact rfl; exists perm_run; exists call_run)
  | ((with_reducible apply Mir.ev_meth); exists ev_run; kernel_rfl; exists ev_run; exists call_run)
  | ((with_reducible apply Mir.ev_methK); exists ev_run; kernel_rfl; exists ev_run; exists ev_run; exact rfl; exact rfl; exists perm_run; exists call_run)
  | ((with_reducible apply Mir.ev_make); exists ev_run; exists call_run)
  | ((with_reducible apply Mir.ev_fld); exists ev_run; exists fld_run)
  | ((with_reducible apply Mir.ev_prop); exists ev_run; kernel_rfl; exists call_run)
  | ((with_reducible apply Mir.ev_tval); exists ev_run)
  | ((with_reducible apply Mir.ev_tand) <;> exists ev_run)
  | ((with_reducible apply Mir.ev_tor) <;> exists ev_run)
  | ((with_reducible apply Mir.ev_tnot); exists ev_run; exists not_run)
  | ((with_reducible apply Mir.ev_eand) <;> exists ev_run)
  | ((with_reducible apply Mir.ev_eor) <;> exists ev_run)
  | ((with_reducible apply Mir.ev_enot); exists ev_run; exists not_run)
  | ((with_reducible apply Mir.ev_if) <;> exists ev_run)
  | with_reducible exact Mir.andK_f | ((with_reducible apply Mir.andK_t); exists ev_run) | ((with_reducible apply Mir.andK_s); intro _; exists ev_run)
  | with_reducible exact Mir.orK_t | ((with_reducible apply Mir.orK_f); exists ev_run) | ((with_reducible apply Mir.orK_s); intro _; exists ev_run)
  | with_reducible exact Mir.eandK_f | ((with_reducible apply Mir.eandK_t); exists ev_run) | ((with_reducible apply Mir.eandK_s); intro _; exists ev_run)
  | with_reducible exact Mir.eorK_t | ((with_reducible apply Mir.eorK_f); exists ev_run) | ((with_reducible apply Mir.eorK_s); intro _; exists ev_run)
  | ((with_reducible apply Mir.ifK_t); exists ev_run) | ((with_reducible apply Mir.ifK_f); exists ev_run)
  | ((with_reducible apply Mir.ifK_yes); (with_reducible assumption); exists ev_run) | ((with_reducible apply Mir.ifK_no); (with_reducible assumption); exists ev_run)
  | ((with_reducible apply Mir.ifK_n) <;> (intro _; exists ev_run))
  | ((with_reducible apply Mir.ifK_i) <;> (intro _; exists ev_run))
  | ((with_reducible apply Mir.ifK_s) <;> (intro _; exists ev_run))
  | ((with_reducible apply Mir.ev_isN); exists ev_run; exact rfl)
  | ((with_reducible apply Mir.ev_notN); exists ev_run; exact rfl)
  | ((with_reducible apply Mir.ev_sl); exists ev_run; exists ev_run; exists ev_run; exists rd_run; exists op_run)
  | with_reducible exact Mir.ev_ono | ((with_reducible apply Mir.ev_oyes); exists ev_run)
  | ((with_reducible apply Mir.ev_tup); exists ev_run; exists fz_run; exists sd_run)
  | ((with_reducible apply Mir.ev_lst); exists ev_run; exists fz_run; exists sd_run)
  | ((with_reducible apply Mir.ev_lstC); exists ev_run; exists fz_run; exists sd_run)
  | ((with_reducible apply Mir.ev_itOf); exists ev_run; exists fz_run; exact rfl)
  | with_reducible exact Mir.rng_1 | with_reducible exact Mir.rng_2 | with_reducible exact Mir.rng_3 | with_reducible exact Mir.rng_4 | with_reducible exact Mir.rng_5 | with_reducible exact Mir.rng_6 | with_reducible exact Mir.rng_8
  | ((with_reducible apply Mir.ev_range1); exists ev_run; exists sd_run)
  | ((with_reducible apply Mir.ev_enumN); exists ev_run)
  | ((with_reducible apply Mir.ev_enumS); exists ev_run)
  | ((with_reducible apply Mir.ev_zip) <;> exists ev_run)
  | ((with_reducible apply Mir.ev_lcm); exists ev_run; exists sd_run; exists wipe_run; (intro _ _; exists ev_run); intro _ _; exists ev_run)
  | ((with_reducible apply Mir.ev_lc); exists ev_run; exists sd_run; exists wipe_run; (intro _ _; exists ev_run); (intro _ _; exists ev_run); intro _ _ _; exists ev_run)
  | ((with_reducible apply Mir.ev_lcx); exists ev_run; exists sd_run; exists wipe_run; exists lcx_run)
  | ((with_reducible apply Mir.ev_lc2); exists ev_run; exists sd_run; exists wipe_run; (intro _ _; exists ev_run); (intro _ _; exists ev_run); (intro _ _; exists sd_run); (intro _ _; exists wipe_run); (intro _ _ _ _; exists ev_run); intro _ _ _ _; exists ev_run)
  | ((with_reducible apply Mir.ev_rgL); exists ev_run; exists sd_run)
  | ((with_reducible apply Mir.ev_forx); exists ev_run; exists forx_run)
  | ((with_reducible apply Mir.ev_gnm); exists wipe_run)
  | ((with_reducible apply Mir.ev_gtp); exact rfl; exists wipe_run; exists ev_run)
  | with_reducible exact Mir.ev_gnl
  | ((with_reducible apply Mir.ev_gcn) <;> exists ev_run)
  | with_reducible exact Mir.ev_pass
  | ((with_reducible apply Mir.ev_expr); exists ev_run)
  | ((with_reducible apply Mir.ev_ret); exists ev_run)
  | with_reducible exact Mir.ev_retN
  | ((with_reducible apply Mir.ev_seq) <;> exists ev_run)
  | ((with_reducible apply Mir.thn_n); exists ev_run) | with_reducible exact Mir.thn_r
  | ((with_reducible apply Mir.ev_asg) <;> exists ev_run)
  | ((with_reducible apply Mir.ev_par); exists ev_run; exists wipe_run)
  | ((with_reducible apply Mir.ev_par3); exists ev_run; exists wipe_run)
  | ((with_reducible apply Mir.ev_parG); exists ev_run; exact rfl; decide; exists ev_run)
  | ((with_reducible apply Mir.ev_sif) <;> exists ev_run)
  | ((with_reducible apply Mir.ev_isi); exists ev_run; exists ev_run; exact rfl; exists isi_run))
local macro_rules | `(tactic| exists ix_run) => `(tactic| first
  | ((with_reducible apply Mir.ixv_p); exists op_run)
  | ((with_reducible apply Mir.ixv_l); exists cell_run; exists at_run) | ((with_reducible apply Mir.ixv_v); exists cell_run; exists at_run) | ((with_reducible apply Mir.ixv_f); exists cell_run; exists op_run))
local macro_rules | `(tactic| exists at_run) => `(tactic| first | with_reducible exact Mir.atI_0 _ _ | with_reducible exact Mir.atI_1 _ _ _ | with_reducible exact Mir.atI_2 _ _ _ _ | (with_reducible apply Mir.at_ms) <;> exists sd_run | (with_reducible apply Mir.at_mn) <;> exists sd_run | (with_reducible apply Mir.at_m0) <;> exists sd_run | with_reducible assumption)
local macro_rules | `(tactic| exists fz_run) => `(tactic| first | with_reducible exact Mir.fr_p | with_reducible exact Mir.frzs_z | (with_reducible apply Mir.frzs_s) <;> exists fz_run | exact Mir.frz_fz (by exists cell_run) | exact Mir.frz_lst (by exists cell_run))
local macro_rules | `(tactic| exists wipe_run) => `(tactic| first | (focus dsimp only [Mir.wipeE, List.set, List.map]; done) | (focus dsimp only [Mir.wipeE, List.set, List.map]; with_reducible exact rfl) | with_reducible exact rfl)
local macro_rules | `(tactic| exists perm_run) => `(tactic| first | (focus simp only [Mir.permL, List.map, List.cons_append, List.nil_append, List.getD_cons_zero, List.getD_cons_succ]; done) | (focus simp only [Mir.permL, List.map, List.cons_append, List.nil_append, List.getD_cons_zero, List.getD_cons_succ]; with_reducible exact rfl))
local macro_rules | `(tactic| exists fld_run) => `(tactic| first | with_reducible assumption | apply_assumption (transparency := .reducible) only [*])
local macro_rules | `(tactic| exists def_run) => `(tactic| ((with_reducible apply Mir.ev_mkF); exact rfl; (first | (focus dsimp only [List.map, List.replicate, List.cons_append, List.nil_append]; done) | (focus dsimp only [List.map, List.replicate, List.cons_append, List.nil_append]; with_reducible exact rfl)); exists ev_run; exists end_run))
local macro_rules | `(tactic| exists end_run) => `(tactic| first | with_reducible exact Mir.end_self | with_reducible exact Mir.end_nx | with_reducible exact Mir.end_app | with_reducible exact Mir.end_nxa)
local macro_rules | `(tactic| exists fun_run) => `(tactic| (apply Eq.trans; exists def_run; first | with_reducible exact rfl | skip))
local macro_rules | `(tactic| exists lcx_run) => `(tactic| first | with_reducible exact Mir.lcx_nil | ((with_reducible apply Mir.lcx_yes); exists ev_run; exists ev_run; exists fz_run; exists lcx_run) | ((with_reducible apply Mir.lcx_s); exists ev_run; exists ev_run; (intro _; exists ev_run); exists lcx_run))
local macro_rules | `(tactic| exists dat_run) => `(tactic| first | with_reducible assumption | exact rfl)
local macro_rules | `(tactic| exists not_run) => `(tactic| first | with_reducible exact Bool.not_true | with_reducible exact Bool.not_false | with_reducible exact rfl)
local macro_rules | `(tactic| exists forx_run) => `(tactic| first | with_reducible exact Mir.forx_nil | ((with_reducible apply Mir.forx_cons); exists ev_run; exists ev_run; exists forx_run))
local macro_rules | `(tactic| exists isi_run) => `(tactic| first | ((with_reducible apply Mir.isi_t); exact rfl) | ((with_reducible apply Mir.isi_f); exact rfl))
local macro_rules | `(tactic| exists sq_run) => `(tactic| first | assumption | omega | (focus have := List.mem_range.mp (by assumption); omega))

namespace Law
open PySem L2 Mir Pl
theorem fldn_order (n : Nat) (order near : List (List Nat)) (S : Sto) : fldV "Space" "order" (nv S (.p (spcP n order near))) S = .ok (.p (.lst (txts order))) S := fld_order n order near S
theorem fldn_seen (n : Nat) (order near : List (List Nat)) (S : Sto) : fldV "Space" "seen" (nv S (.p (spcP n order near))) S = .ok (.p (.lst (nums (bitsL near)))) S := fld_seen n order near S
theorem fldn_told (n : Nat) (order near : List (List Nat)) (S : Sto) : fldV "Space" "told" (nv S (.p (spcP n order near))) S = .ok (.p (.str (textT n order near))) S := fld_told n order near S
end Law
local macro_rules | `(tactic| exists fld_run) => `(tactic| first | with_reducible exact Law.fldn_order _ _ _ _ | with_reducible exact Law.fldn_seen _ _ _ _ | with_reducible exact Law.fldn_told _ _ _ _)

namespace Law
open PySem L2 Mir Pl
section
variable {n : Nat} {order near : List (List Nat)} (h : Spc n order near)
include h
end
end Law

namespace Law
open PySem L2 Mir Pl
end Law

namespace Law
open PySem L2 Mir Pl
section
variable {n : Nat} {order near : List (List Nat)} (h : Spc n order near)
include h
theorem Spc.pick_nm {l : List Nat} (hl : Lot n l) : ∀ x ∈ pick order l, NameOk x := fun x hx => by
  obtain ⟨j, hj, rfl⟩ := List.mem_map.mp hx
  exact h.at_ (hl.lt j hj)
theorem Spc.dat {l : List Nat} (hl : Lot n l) (m : Nat) : (setP order l).dat (m + 1) = true := datL_of fun x hx => (h.pick_nm hl x hx).asc
theorem Spc.sz {l : List Nat} (hl : Lot n l) : (setP order l).sz ≤ 22000 := by
  show szL _ + 4 ≤ 22000
  have h1 := szL_map (f := P.str) (c := 82) (l := pick order l) fun x hx => by
    have := (h.pick_nm hl x hx).len
    show 10 * x.length + 2 ≤ 82
    omega
  have h2 := hl.len
  have h3 := h.le
  have h4 : (pick order l).length = l.length := by unfold pick; rw [List.length_map]
  unfold txts
  omega
end
end Law

namespace Pl
end Pl
namespace Law
open PySem L2 Mir Pl
end Law

namespace Law
open PySem L2 Mir Pl
section
variable {n : Nat} {order near : List (List Nat)} (h : Spc n order near)
include h
end
end Law

namespace Mir
open L2
end Mir
namespace Law
open PySem L2 Mir Pl
end Law

namespace Pl
end Pl
namespace Law
open PySem L2 Mir Pl
theorem check_space_ok (n : Nat) (order near : List (List Nat)) (S : Sto) : m_check_space [.p (spcP n order near)] S = .ok (.p .non) S := by
  unfold m_check_space b_check_space
  exists fun_run
section
variable {n : Nat} {near : List (List Nat)} (h : Near n near) (hn : n ≤ 256)
include h hn
end
end Law

namespace Law
open PySem L2 Mir Pl
section
variable {n : Nat} {near : List (List Nat)} (h : Near n near) (hn : n ≤ 256)
include h hn
end
section
variable {n : Nat} {order near : List (List Nat)} (h : Spc n order near)
include h
end
end Law

namespace Pl
open Law
section
variable {n : Nat} {near : List (List Nat)}
variable (h : Near n near)
include h
theorem rowLot {k : Nat} (hk : k < n) : Lot n (row near k) := ⟨h.srt k hk, h.lt k hk⟩
end
end Pl

namespace Law
open PySem L2 Mir Pl
section
variable {n : Nat} {order near : List (List Nat)} (h : Spc n order near)
include h
theorem check_point_ok {k : Nat} (hk : k < n) (S : Sto) : m_check_point [.p (spcP n order near), .p (.str (order.getD k []))] S = .ok (.p .non) S := by
  unfold m_check_point b_check_point
  have hm : order.contains (order.getD k []) = true := List.contains_iff_mem.mpr (mem_getD (by rw [h.len]; exact hk))
  have ni : pNotIn2 (.str (order.getD k [])) (.lst (txts order)) = some (.bl false) := by
    have := op_niSL' (x := order.getD k []) (l := order)
    rw [hm] at this
    exact this
  refine ev_mkF rfl rfl (ev_sif (ev_tor (ev_tnot (ev_tval (ev_fn (ev_acons (ev_var rfl) ev_anil) ((h.at_ hk).is S))) rfl) (orK_f (ev_tval (ev_bin (ev_var rfl) (ev_fld (ev_var rfl) (fldn_order n order near S)) rfl rfl ni)))) (ifK_f ev_pass)) ?_
  show Res.ok (Vl.p P.non) (S.take S.length) = _
  rw [take_self]
theorem near_ok {k : Nat} (hk : k < n) (S : Sto) : m_Space_near [.p (spcP n order near), .p (.str (order.getD k []))] S = .ok (.p (setP order (row near k))) S := by
  have hle := h.le
  have no := names_of_ok h (B := bitsN (row near k)) (rowLot h.near hk).bits S
  rw [mem_bits (h.near.srt k hk) (h.near.lt k hk)] at no
  have ix : atI (nums (bitsL near)) (k : Int) = some (.int ((bitsN (row near k) : Nat) : Int)) := by
    have hk2 : k < near.length := by rw [h.near.len]; exact hk
    have hk3 : k < (bitsL near).length := by unfold bitsL; rw [List.length_map]; exact hk2
    have e1 : (bitsL near)[k]? = some (bitsN (row near k)) := by
      have := bitsL_at hk2
      rw [List.getD_eq_getElem?_getD, List.getElem?_eq_getElem hk3] at this
      rw [List.getElem?_eq_getElem hk3]
      exact congrArg some this
    refine atN ?_
    rw [List.getElem?_map, e1]
    rfl
  unfold m_Space_near b_Space_near
  refine ev_mkF rfl rfl (ev_seq (ev_expr (ev_fn (ev_acons (ev_var rfl) (ev_acons (ev_var rfl) ev_anil)) (check_point_ok h hk S))) (ev_ret (ev_fn (ev_acons (ev_var rfl) (ev_acons (ev_item (ev_fld (ev_var rfl) (fldn_seen n order near S)) (ev_mth (ev_fld (ev_var rfl) (fldn_order n order near S)) rfl rfl (ev_acons (ev_var rfl) ev_anil) rfl (rds_c rfl (rds_nil _)) (pIdx_at h.nd (by rw [h.len]; exact hk))) (ixv_p ix)) ev_anil)) no))) ?_
  rw [endF_p, take_self]
end
end Law

namespace Law
open PySem L2 Mir
def Jar (S : Sto) (k : Nat) : Prop := ∃ a b c : Int, S[k]? = some (.lst [.int a, .int b, .int c]) ∧ 0 ≤ a ∧ 0 ≤ b ∧ b < 2147483587 ∧ 0 ≤ c
structure Jx (k : Nat) (S S' : Sto) : Prop where
  len : S'.length = S.length
  jar : Jar S' k
  oth : ∀ j, j ≠ k → S'[j]? = S[j]?
theorem Jx.trans {k : Nat} {S S1 S2 : Sto} (h : Jx k S S1) (h' : Jx k S1 S2) : Jx k S S2 := ⟨h'.len.trans h.len, h'.jar, fun j hj => (h'.oth j hj).trans (h.oth j hj)⟩
theorem Jx.of_set {k : Nat} {S : Sto} {c : Cell} {a b e : Int} (hk : S[k]? = some c) (ha : 0 ≤ a) (hb : 0 ≤ b) (hb2 : b < 2147483587) (hc : 0 ≤ e) : Jx k S (S.set k (.lst [.int a, .int b, .int e])) :=
  ⟨List.length_set, ⟨a, b, e, get_set_self hk, ha, hb, hb2, hc⟩, fun j hj => get_set_ne (Ne.symm hj)⟩
end Law

namespace Mir
theorem cutJ_map {A B : Type} (f : A → B) (xs : List A) (lo hi : Option Int) : cutP (xs.map f) lo hi = (cutP xs lo hi).map f := by
  unfold cutP
  simp
theorem cutJ_len {A : Type} (xs : List A) (lo hi : Option Int) : (cutP xs lo hi).length ≤ xs.length := by
  unfold cutP
  rw [List.length_take, List.length_drop]
  omega
end Mir
namespace Law
open PySem L2 Mir Pl
def scrJ (ns : List Int) : P := .scr (ns.map P.int)
theorem ev_cut {m : ME} {ρ : En} {S S1 S2 : Sto} {d : Vl} {x : P} (h : m ρ S = .ok d S1) (hf : frz d S1 = .ok x S2) : eCut m ρ S = .ok (.p x) (S2.take S.length) := by
  unfold eCut
  rw [h]
  show ((frz d S1).bind fun x S2 => Res.ok (Vl.p x) (S2.take S.length)) = _
  rw [hf]
  rfl
end Law

namespace Law
open PySem L2 Mir Pl
def Mug (S : Sto) (k : Nat) : Prop := ∃ a b : Int, S[k]? = some (.lst [.int a, .int b]) ∧ 0 ≤ a ∧ 0 ≤ b ∧ b < 2147483053
structure Mx (k : Nat) (S S' : Sto) : Prop where
  len : S'.length = S.length
  mug : Mug S' k
  oth : ∀ j, j ≠ k → S'[j]? = S[j]?
theorem Mx.trans {k : Nat} {S S1 S2 : Sto} (h : Mx k S S1) (h' : Mx k S1 S2) : Mx k S S2 := ⟨h'.len.trans h.len, h'.mug, fun j hj => (h'.oth j hj).trans (h.oth j hj)⟩
theorem Mx.of_set {k : Nat} {S : Sto} {c : Cell} {a b : Int} (hk : S[k]? = some c) (ha : 0 ≤ a) (hb : 0 ≤ b) (hb2 : b < 2147483053) : Mx k S (S.set k (.lst [.int a, .int b])) :=
  ⟨List.length_set, ⟨a, b, get_set_self hk, ha, hb, hb2⟩, fun j hj => get_set_ne (Ne.symm hj)⟩
theorem Mx.refl {k : Nat} {S : Sto} (h : Mug S k) : Mx k S S := ⟨rfl, h, fun _ _ => rfl⟩
theorem gulp_ok {S : Sto} {k : Nat} {n : Int} (hu : Mug S k) (hn : 0 < n) (hn2 : n < 1000000) : ∃ r S', m__law_gulp [.c k, .p (.int n)] S = .ok (.p (.int r)) S' ∧ 0 ≤ r ∧ r < n ∧ Mx k S S' := by
  obtain ⟨a, b, hk, ha, hb, hb2⟩ := hu
  unfold m__law_gulp mkF b__law_gulp
  by_cases h0 : 0 < a
  · simp [nv_lst hk, ixV_lst hk, h0, bDiv_of hn (show n < 1073741824 by omega)]
    rw [setV_lst hk rfl]
    simp
    refine ⟨a % n, _, ⟨rfl, rfl⟩, Int.emod_nonneg _ (by omega), Int.emod_lt_of_pos _ hn, ?_⟩
    rw [take_len List.length_set]
    exact Mx.of_set hk (Int.ediv_nonneg ha (by omega)) hb hb2
  · have e1 : ∀ x : Int, bMul b x = true := fun x => bMul_l (by omega) (by omega)
    have e3 : ∀ x : Int, bMod x 2147483053 = true := fun x => bMod_of (by decide)
    simp [nv_lst hk, ixV_lst hk, h0, e1, e3]
    rw [setV_lst hk rfl]
    simp
    generalize hC : (b * 61403 + 17011) % 2147483053 = C
    have hC0 : 0 ≤ C := by rw [← hC]; exact Int.emod_nonneg _ (by decide)
    have hC1 : C < 2147483053 := by rw [← hC]; exact Int.emod_lt_of_pos _ (by decide)
    have h2 := Mx.of_set (a := a) (b := C) hk ha hC0 hC1
    have hk2 : (S.set k (.lst [.int a, .int C]))[k]? = _ := get_set_self hk
    generalize hS2 : S.set k (.lst [.int a, .int C]) = S2 at *
    have e6 : ∀ x, bDiv x 971 = true := fun x => bDiv_of (by decide) (by decide)
    have e7 : ∀ x, bMod x n = true := fun x => bMod_of hn
    simp [nv_lst hk2, ixV_lst hk2, e6, e7]
    refine ⟨_, _, ⟨rfl, rfl⟩, Int.emod_nonneg _ (by omega), Int.emod_lt_of_pos _ hn, ?_⟩
    rw [take_len h2.len]
    exact h2
theorem cut_frG {A : Type} (xs : List A) (k : Nat) (h : k ≤ xs.length) : cutP xs (some (k : Int)) none = xs.drop k := by
  unfold cutP
  rw [HT.sIx_nat, HT.sIx_none, Nat.min_eq_left h]
  rw [List.take_of_length_le (by rw [List.length_drop]; exact Nat.le_refl _)]
theorem cut_toG {A : Type} (xs : List A) (k : Nat) (h : k ≤ xs.length) : cutP xs none (some (k : Int)) = xs.take k := by
  unfold cutP
  rw [HT.sIx_nat, HT.sIx_none, Nat.min_eq_left h, List.drop_zero, Nat.sub_zero]
theorem perm_move {A : Type} {F R : List A} {r : Nat} (h : r < R.length) : (F ++ [R[r]] ++ (R.take r ++ R.drop (r + 1))).Perm (F ++ R) := by
  have e : R = R.take r ++ R[r] :: R.drop (r + 1) := by
    rw [List.getElem_cons_drop, List.take_append_drop]
  have p : ([R[r]] ++ (R.take r ++ R.drop (r + 1))).Perm (R.take r ++ R[r] :: R.drop (r + 1)) := by
    rw [List.singleton_append]
    exact List.perm_middle.symm
  rw [List.append_assoc]
  refine (List.Perm.append_left F p).trans ?_
  rw [← e]
theorem shuffled_ok {S : Sto} {k : Nat} (hu : Mug S k) {pool : List (List Nat)} (hl : pool.length ≤ 1000) : ∃ F S', m__law_shuffled [.c k, .p (.lst (txts pool))] S = .ok (.p (.lst (txts F))) S' ∧ F.Perm pool ∧ Mx k S S' := by
  have body : WS (b__law_shuffled [some (.c k), some (.p (.lst (txts pool))), none, none, none, none] S) fun fl T => ∃ F, fl = .rt (.p (.lst (txts F))) ∧ F.Perm pool ∧ Mx k S T := by
    unfold b__law_shuffled
    refine ws_seq (ev_par (ev_acons (ev_lst ev_anil frzs_z (by simp)) (ev_acons (ev_call (z := .lst (txts pool)) (ev_acons (ev_var rfl) ev_anil) (rds_c (rd_p _ _) (rds_nil _)) rfl) ev_anil)) rfl) ?_
    refine ws_seqW (ws_mono (ws_forM (us := List.range pool.length) (en := fun (j : Nat) => P.int (j : Int)) (Q := fun fl T => ∃ F a2 a4 a5, fl = .nx [some (.c k), some (.p (.lst (txts pool))), a2, some (.p (.lst (txts F))), a4, a5] ∧ F.Perm pool ∧ Mx k S T) (fun i ρ T => ∃ F R a2 a5, ρ = [some (.c k), some (.p (.lst (txts pool))), a2, some (.p (.lst (txts F))), some (.p (.lst (txts R))), a5] ∧ (F ++ R).Perm pool ∧ R.length + i = pool.length ∧ Mx k S T) (ev_range1 (ev_call (ev_acons (ev_var rfl) ev_anil) (rds_c (rd_p _ _) (rds_nil _)) op_lenLm) (by omega)) ⟨[], pool, _, _, rfl, List.Perm.refl _, rfl, Mx.refl hu⟩ ?_ ?_) ?_)
    · rintro i j ρ T hj ⟨F, R, a2, a5, rfl, hp, hR, hm⟩
      have hi : i < pool.length := by
        have := (List.getElem?_eq_some_iff.mp hj).1
        rwa [List.length_range] at this
      obtain ⟨r0, T1, e1, r1, r2, u1⟩ := gulp_ok hm.mug (n := (R.length : Int)) (by omega) (by omega)
      obtain ⟨r, rfl⟩ := Int.eq_ofNat_of_zero_le r1
      have hr : r < R.length := by omega
      refine ⟨_, _, ev_gnm rfl, ?_⟩
      refine ws_seq (ev_asg (ev_fn (ev_acons (ev_var rfl) (ev_acons (ev_call (ev_acons (ev_var rfl) ev_anil) (rds_c (rd_p _ _) (rds_nil _)) op_lenLm) ev_anil)) e1) (ev_gnm rfl)) ?_
      have i1 : pIx (.lst (txts R)) (.int (r : Int)) = some (.str R[r]) := by
        show atI (txts R) (r : Int) = _
        refine atN ?_
        rw [List.getElem?_map, List.getElem?_eq_getElem hr]
        rfl
      have s1 : pSl none (some (r : Int)) (.lst (txts R)) = some (.lst (txts (R.take r))) := by
        show some (P.lst (cutP (txts R) none (some (r : Int)))) = _
        rw [cutJ_map, cut_toG R r (by omega)]
      have s2 : pSl (some ((r + 1 : Nat) : Int)) none (.lst (txts R)) = some (.lst (txts (R.drop (r + 1)))) := by
        show some (P.lst (cutP (txts R) (some ((r + 1 : Nat) : Int)) none)) = _
        rw [cutJ_map, cut_frG R (r + 1) (by omega)]
      have lF : F.length ≤ pool.length := by
        have := hp.length_eq
        rw [List.length_append] at this
        omega
      have ad1 : pAdd (.lst (txts F)) (.lst [.str R[r]]) = some (.lst (txts (F ++ [R[r]]))) := by
        rw [op_addL (by rw [List.length_map]; simp; omega)]
        unfold txts
        rw [List.map_append]
        rfl
      have ad2 : pAdd (.lst (txts (R.take r))) (.lst (txts (R.drop (r + 1)))) = some (.lst (txts (R.take r ++ R.drop (r + 1)))) := by
        rw [op_addL (by rw [List.length_map, List.length_map, List.length_take, List.length_drop]; omega)]
        unfold txts
        rw [List.map_append]
      refine ws_of (ev_par (ev_acons (ev_bin (ev_var rfl) (ev_lst (ev_acons (ev_item (ev_var rfl) (ev_var rfl) (ixv_p i1)) ev_anil) (frzs_s fr_p frzs_z) (by simp)) (rd_p _ _) (rd_p _ _) ad1) (ev_acons (ev_bin (ev_sl (ev_var rfl) ev_ono (ev_oyes (ev_var rfl)) (rd_p _ _) s1) (ev_sl (ev_var rfl) (ev_oyes (ev_bin (ev_var rfl) ev_c (rd_p _ _) (rd_p _ _) (op_addN (b := 1)))) ev_ono (rd_p _ _) s2) (rd_p _ _) (rd_p _ _) ad2) ev_anil)) rfl) ?_
      refine ⟨_, .inl rfl, _, _, _, _, rfl, (perm_move hr).trans hp, ?_, hm.trans u1⟩
      rw [List.length_append, List.length_take, List.length_drop]
      omega
    · rintro ρ T ⟨F, R, a2, a5, rfl, hp, hR, hm⟩
      rw [List.length_range] at hR
      have : R = [] := List.eq_nil_of_length_eq_zero (by omega)
      subst this
      rw [List.append_nil] at hp
      exact ⟨F, _, _, _, rfl, hp, hm⟩
    · rintro fl T ⟨F, a2, a4, a5, rfl, hp, hm⟩
      exact ⟨_, rfl, ws_of (ev_ret (ev_var rfl)) ⟨F, rfl, hp, hm⟩⟩
  obtain ⟨fl, T, e, F, rfl, hp, hm⟩ := body
  refine ⟨F, T, ?_, hp, hm⟩
  unfold m__law_shuffled
  refine ev_mkF rfl rfl e ?_
  rw [endF_p, take_len hm.len]
def poolT : List (List Nat) := [[97], [98], [99], [120], [105], [110], [112, 48], [112, 49], [97, 98, 99, 100, 101, 102, 103, 104], [122, 57], [97, 108, 108], [112, 108, 97, 105, 110], [117, 110, 100, 111], [97, 49], [97, 49, 49], [113]]
structure Tags (m : Nat) (ts : List (List Nat)) : Prop where
  len : ts.length = m
  nd : ts.Nodup
  pool : ∀ x ∈ ts, x ∈ poolT
theorem tags_ok {S : Sto} {k m : Nat} (hu : Mug S k) (hm : m ≤ 16) : ∃ ts S', m__law_tags [.c k, .p (.int (m : Int))] S = .ok (.p (.lst (txts ts))) S' ∧ Tags m ts ∧ Mx k S S' := by
  obtain ⟨F, S1, e1, hp, u1⟩ := shuffled_ok hu (pool := poolT) (by decide)
  have hF : F.length = 16 := hp.length_eq
  refine ⟨F.take m, S1, ?_, ⟨by rw [List.length_take]; omega, (hp.nodup_iff.mpr (by decide)).sublist (List.take_sublist _ _), fun x hx => hp.mem_iff.mp (List.mem_of_mem_take hx)⟩, u1⟩
  have s1 : pSl none (some (m : Int)) (.lst (txts F)) = some (.lst (txts (F.take m))) := by
    show some (P.lst (cutP (txts F) none (some (m : Int)))) = _
    rw [cutJ_map, cut_toG F m (by omega)]
  unfold m__law_tags b__law_tags
  refine ws_mkFe (ρ := [some (.c k), some (.p (.int (m : Int))), none]) rfl rfl ?_
  refine ws_seq (ev_asg (ev_lst (ev_acons ev_c (ev_acons ev_c (ev_acons ev_c (ev_acons ev_c (ev_acons ev_c (ev_acons ev_c (ev_acons ev_c (ev_acons ev_c (ev_acons ev_c (ev_acons ev_c (ev_acons ev_c (ev_acons ev_c (ev_acons ev_c (ev_acons ev_c (ev_acons ev_c (ev_acons ev_c ev_anil)))))))))))))))) (frzs_p [_, _, _, _, _, _, _, _, _, _, _, _, _, _, _, _] _) (by simp)) (ev_gnm rfl)) ?_
  refine ws_of (ev_ret (ev_sl (ev_fn (ev_acons (ev_var rfl) (ev_acons (ev_var rfl) ev_anil)) e1) ev_ono (ev_oyes (ev_var rfl)) (rd_p _ _) s1)) ?_
  rw [endF_p, take_len u1.len]
end Law

namespace Law
open PySem L2 Mir Pl
theorem mug_ok {ns : List Int} (hn : ns.length ≤ 63) {t : Nat} (S : Sto) : ∃ c, m__law_mug [.p (scrJ ns), .p (.int (t : Int))] S = .ok (.c S.length) (S ++ [c]) ∧ Mug (S ++ [c]) S.length := by
  have bm2 : ∀ {i : Int}, pMul (.int i) (.int 40127) = some (.int (i * 40127)) := fun {i} => by rw [pMul_int, bMul_r (by decide) (by decide), if_pos rfl]
  have bm3 : ∀ {i : Int}, pMul (.int 58013) (.int i) = some (.int (58013 * i)) := fun {i} => by rw [pMul_int, bMul_l (by decide) (by decide), if_pos rfl]
  have bm4 : ∀ {i : Int}, pMul (.int 6133) (.int i) = some (.int (6133 * i)) := fun {i} => by rw [pMul_int, bMul_l (by decide) (by decide), if_pos rfl]
  have opr : ∀ {i : Int}, pIC bMod (fun i j => i % j) (.int i) (.int 2147483053) = some (.int (i % 2147483053)) := by
    intro i
    rw [pIC_int, bMod_of (by decide), if_pos rfl]
  let E (a2 a3 a4 : Option Vl) : En := [some (.p (scrJ ns)), some (.p (.int (t : Int))), a2, a3, a4]
  have e1 : tVal (eBin bLt (eVar 1) (eCall pLen (aCons (eVar 0) aNil))) (E none none none) S = .ok (decide ((t : Int) < ((ns.length : Nat) : Int))) S := by
    have e0 : pLen [scrJ ns] = some (.int ((ns.length : Nat) : Int)) := by
      unfold scrJ
      rw [pLen_scr, List.length_map]
    exact ev_tval (ev_bin (ev_var rfl) (ev_call (ev_acons (ev_var rfl) ev_anil) (rds_c (rd_p _ _) (rds_nil _)) e0) (rd_p _ _) (rd_p _ _) rfl)
  have cl : ∃ v : Int, eIfM (tVal (eBin bLt (eVar 1) (eCall pLen (aCons (eVar 0) aNil)))) (eItem (eVar 0) (eVar 1)) (eBin pMul (eC (.int 58013)) (eBin pAdd (eVar 1) (eC (.int 7)))) (E none none none) S = .ok (.p (.int v)) S := by
    by_cases h : t < ns.length
    · rw [decide_eq_true (by omega)] at e1
      have hx : pIx (scrJ ns) (.int (t : Int)) = some (.int ns[t]) := by
        show atI (ns.map P.int) (t : Int) = _
        refine atN ?_
        rw [List.getElem?_map, List.getElem?_eq_getElem h]
        rfl
      exact ⟨_, ev_if e1 (ifK_t (ev_item (ev_var rfl) (ev_var rfl) (ixv_p hx)))⟩
    · rw [decide_eq_false (by omega)] at e1
      exact ⟨_, ev_if e1 (ifK_f (ev_bin ev_c (ev_bin (ev_var rfl) ev_c (rd_p _ _) (rd_p _ _) rfl) (rd_p _ _) (rd_p _ _) bm3))⟩
  obtain ⟨v, ec⟩ := cl
  have hi : itOf (eBin pAdd (eSl (eVar 0) oNo (oYes (eC (.int 4)))) (eLst (aCons (eVar 2) aNil))) (E (some (.p (.int v))) (some (.p (.int (43661 + 6133 * (t : Int))))) none) S = .ok ((cutP ns none (some 4) ++ [v]).map P.int) S := by
    have e2 : pSl none (some 4) (scrJ ns) = some (.lst ((cutP ns none (some 4)).map P.int)) := by
      show some (P.lst (cutP (ns.map P.int) none (some 4))) = _
      rw [cutJ_map]
    have hl := cutJ_len ns none (some 4)
    have ad : pAdd (.lst ((cutP ns none (some 4)).map P.int)) (.lst [.int v]) = some (.lst ((cutP ns none (some 4) ++ [v]).map P.int)) := by
      rw [op_addL (by rw [List.length_map]; simp; omega), List.map_append]
      rfl
    exact ev_itOf (ev_bin (ev_sl (ev_var rfl) ev_ono (ev_oyes ev_c) (rd_p _ _) e2) (ev_lst (ev_acons (ev_var rfl) ev_anil) (frzs_s fr_p frzs_z) (by simp)) (rd_p _ _) (rd_p _ _) ad) fr_p rfl
  have go : WS (b__law_mug (E none none none) S) fun f T => ∃ a b : Int, f = .rt (.c S.length) ∧ T = S ++ [.lst [.int a, .int b]] ∧ 0 ≤ a ∧ 0 ≤ b ∧ b < 2147483053 := by
    unfold b__law_mug
    refine ws_seq (ev_asg ec (ev_gnm rfl)) ?_
    refine ws_seq (ev_asg (ev_bin ev_c (ev_bin ev_c (ev_var rfl) (rd_p _ _) (rd_p _ _) bm4) (rd_p _ _) (rd_p _ _) rfl) (ev_gnm rfl)) ?_
    refine ws_seqW (ws_mono (ws_forM (us := cutP ns none (some 4) ++ [v]) (en := P.int) (Q := fun fl T => ∃ (st : Int) (a4 : Option Vl), fl = .nx (E (some (.p (.int v))) (some (.p (.int st))) a4) ∧ 0 ≤ st ∧ st < 2147483053 ∧ T = S) (fun i ρ T => ∃ (st : Int) (a4 : Option Vl), ρ = E (some (.p (.int v))) (some (.p (.int st))) a4 ∧ (0 < i → 0 ≤ st ∧ st < 2147483053) ∧ T = S) hi ⟨_, _, rfl, (fun z => absurd z (by decide)), rfl⟩ ?_ ?_) ?_)
    · rintro i u ρ T hu ⟨st, a4, rfl, hst, rfl⟩
      refine ⟨_, _, ev_gnm rfl, ws_of (ev_asg (ev_bin (ev_call (z := .int (st * 40127 + u % 2147483053 + 53)) (ev_acons (ev_bin (ev_bin (ev_bin (ev_var rfl) ev_c (rd_p _ _) (rd_p _ _) bm2) (ev_bin (ev_call (z := .int u) (ev_acons (ev_var rfl) ev_anil) (rds_c (rd_p _ _) (rds_nil _)) rfl) ev_c (rd_p _ _) (rd_p _ _) opr) (rd_p _ _) (rd_p _ _) rfl) ev_c (rd_p _ _) (rd_p _ _) rfl) ev_anil) (rds_c (rd_p _ _) (rds_nil _)) rfl) ev_c (rd_p _ _) (rd_p _ _) opr) (ev_gnm rfl)) ⟨_, .inl rfl, _, _, rfl, fun _ => ⟨Int.emod_nonneg _ (by decide), Int.emod_lt_of_pos _ (by decide)⟩, rfl⟩⟩
    · rintro ρ T ⟨st, a4, rfl, hst, rfl⟩
      have := hst (by rw [List.length_append]; simp)
      exact ⟨st, a4, rfl, this.1, this.2, rfl⟩
    · rintro fl T ⟨st, a4, rfl, h0, h1, rfl⟩
      refine ⟨_, rfl, ?_⟩
      have pw : eBin (pIC bPow fun i j => i ^ j.toNat) (eC (.int 10)) (eC (.int 17)) (E (some (.p (.int v))) (some (.p (.int st))) a4) T = .ok (.p (.int 100000000000000000)) T := ev_bin ev_c ev_c (rd_p _ _) (rd_p _ _) rfl
      have tl : ∀ {q : Bool}, decide (v < 0) = q → tVal (eBin bLt (eVar 2) (eC (.int 0))) (E (some (.p (.int v))) (some (.p (.int st))) a4) T = .ok q T := fun {q} hq => ev_tval (ev_bin (ev_var rfl) ev_c (rd_p _ _) (rd_p _ _) (by
        show some (P.bl (decide (v < 0))) = _
        rw [hq]))
      have tg : ∀ {q : Bool}, decide ((100000000000000000 : Int) ≤ v) = q → tVal (eBin (pIB fun i j => decide (j ≤ i)) (eVar 2) (eBin (pIC bPow fun i j => i ^ j.toNat) (eC (.int 10)) (eC (.int 17)))) (E (some (.p (.int v))) (some (.p (.int st))) a4) T = .ok q T := fun {q} hq => ev_tval (ev_bin (ev_var rfl) pw (rd_p _ _) (rd_p _ _) (by
        show some (P.bl (decide ((100000000000000000 : Int) ≤ v))) = _
        rw [hq]))
      have fst : ∃ a : Int, 0 ≤ a ∧ eIfM (tOrM (tVal (eBin bLt (eVar 2) (eC (.int 0)))) (tVal (eBin (pIB fun i j => decide (j ≤ i)) (eVar 2) (eBin (pIC bPow fun i j => i ^ j.toNat) (eC (.int 10)) (eC (.int 17)))))) (eCall pAbs (aCons (eVar 2) aNil)) (eC (.int 0)) (E (some (.p (.int v))) (some (.p (.int st))) a4) T = .ok (.p (.int a)) T := by
        have ab : 0 ≤ (if v < 0 then -v else v) := by split <;> omega
        have ea : eCall pAbs (aCons (eVar 2) aNil) (E (some (.p (.int v))) (some (.p (.int st))) a4) T = .ok (.p (.int (if v < 0 then -v else v))) T := ev_call (ev_acons (ev_var rfl) ev_anil) (rds_c (rd_p _ _) (rds_nil _)) (pAbs_int _)
        by_cases c1 : v < 0
        · exact ⟨_, ab, ev_if (ev_tor (tl (decide_eq_true c1)) orK_t) (ifK_t ea)⟩
        · by_cases c2 : (100000000000000000 : Int) ≤ v
          · exact ⟨_, ab, ev_if (ev_tor (tl (decide_eq_false c1)) (orK_f (tg (decide_eq_true c2)))) (ifK_t ea)⟩
          · exact ⟨0, by decide, ev_if (ev_tor (tl (decide_eq_false c1)) (orK_f (tg (decide_eq_false c2)))) (ifK_f ev_c)⟩
      obtain ⟨a, ha, ef⟩ := fst
      exact ws_of (ev_ret (ev_lstC (ev_acons ef (ev_acons (ev_var rfl) ev_anil)) (frzs_s fr_p (frzs_s fr_p frzs_z)) (by simp))) ⟨a, st, rfl, rfl, ha, h0, h1⟩
  obtain ⟨f, T, e, a, b, rfl, rfl, ha, hb0, hb1⟩ := go
  refine ⟨.lst [.int a, .int b], ?_, ⟨a, b, by simp, ha, hb0, hb1⟩⟩
  unfold m__law_mug
  have hk : mkK 2 3 b__law_mug [.p (scrJ ns), .p (.int (t : Int))] S = endK S.length (b__law_mug (E none none none) S) := rfl
  rw [hk, e]
  unfold endK
  dsimp only
  have h0 : (S ++ [Cell.lst [.int a, .int b]])[S.length]? = some (.lst [.int a, .int b]) := by simp
  rw [if_neg (by omega), h0]
  dsimp only
  rw [take_app]
section
variable {R U : MF} {ns : List Int} {T : Sto}
theorem loopMT (hR : ∀ S k, Mug S k → k = T.length → S.length = T.length + 1 → S.take T.length = T → ∃ S', R [.c k] S = .ok (.p (.bl true)) S' ∧ S'.take T.length = T) (hU : ∀ t : Nat, ∃ c, U [.p (scrJ ns), .p (.int ((t : Nat) : Int))] T = .ok (.c T.length) (T ++ [c]) ∧ Mug (T ++ [c]) T.length) :
    ∀ (l : List Nat), lcGo (gNm 1) tsYes (eCut (eFn R (aCons (eFn U (aCons (eVar 0) (aCons (eVar 1) aNil))) aNil))) [some (.p (scrJ ns)), none] (l.map fun (k : Nat) => P.int (k : Int)) T = .ok (l.map fun _ => P.bl true) T
  | [] => rfl
  | t :: l => by
    obtain ⟨c, e1, u1⟩ := hU t
    obtain ⟨S2, e2, e3⟩ := hR (T ++ [c]) T.length u1 rfl (by simp) (by simp)
    have ec := ev_cut (ev_fn (ev_acons (ev_fn (ev_acons (ev_var (ρ := [some (.p (scrJ ns)), some (.p (.int (t : Int)))]) (i := 0) rfl) (ev_acons (ev_var (i := 1) rfl) ev_anil)) e1) ev_anil) e2) fr_p
    rw [e3] at ec
    exact lcx_yes (ev_gnm rfl) ec fr_p (loopMT hR hU l)
theorem endMT {K : Nat} (hK : 2 ≤ K) (hK2 : K < 100) (hR : ∀ S k, Mug S k → k = T.length → S.length = T.length + 1 → S.take T.length = T → ∃ S', R [.c k] S = .ok (.p (.bl true)) S' ∧ S'.take T.length = T) (hU : ∀ t : Nat, ∃ c, U [.p (scrJ ns), .p (.int ((t : Nat) : Int))] T = .ok (.c T.length) (T ++ [c]) ∧ Mug (T ++ [c]) T.length) {kl : Int} (hkl : kl = (K : Int)) :
    ∃ S', mkF 1 1 (sRet (eCall pAll (aCons (eLc (itRange1 (eCall pMax2 (aCons (eC (.int 2)) (aCons (eCall pMin2 (aCons (eCall pLen (aCons (eVar 0) aNil)) (aCons (eC (.int kl)) aNil))) aNil)))) [1] (gNm 1) tsYes (eCut (eFn R (aCons (eFn U (aCons (eVar 0) (aCons (eVar 1) aNil))) aNil)))) aNil))) [.p (scrJ ns)] T = .ok (.p (.bl true)) S' := by
  have e0 : pLen [scrJ ns] = some (.int ((ns.length : Nat) : Int)) := by
    unfold scrJ
    rw [pLen_scr, List.length_map]
  let n : Nat := max 2 (min ns.length K)
  have hr : itRange1 (eCall pMax2 (aCons (eC (.int 2)) (aCons (eCall pMin2 (aCons (eCall pLen (aCons (eVar 0) aNil)) (aCons (eC (.int kl)) aNil))) aNil))) [some (.p (scrJ ns)), none] T = .ok ((List.range n).map fun (k : Nat) => P.int (k : Int)) T := by
    refine ev_range1i (i := ((n : Nat) : Int)) ?_ rfl (by omega)
    have e1 : pMax2 [.int 2, .int (if kl < ((ns.length : Nat) : Int) then kl else ((ns.length : Nat) : Int))] = some (.int ((n : Nat) : Int)) := by
      show some (P.int (if (if kl < ((ns.length : Nat) : Int) then kl else ((ns.length : Nat) : Int)) > 2 then (if kl < ((ns.length : Nat) : Int) then kl else ((ns.length : Nat) : Int)) else 2)) = _
      congr 2
      subst hkl
      split <;> split <;> omega
    exact ev_call (ev_acons ev_c (ev_acons (ev_call (ev_acons (ev_call (ev_acons (ev_var rfl) ev_anil) (rds_c (rd_p _ _) (rds_nil _)) e0) (ev_acons ev_c ev_anil)) (rds_c (rd_p _ _) (rds_c (rd_p _ _) (rds_nil _))) rfl) ev_anil)) (rds_c (rd_p _ _) (rds_c (rd_p _ _) (rds_nil _))) e1
  have e := loopMT (R := R) (U := U) hR hU (List.range n)
  refine ⟨T, ev_mkF rfl rfl (ev_ret (ev_call (ev_acons (ev_lcx hr (by rw [List.length_map, List.length_range]; omega) rfl e) ev_anil) (rds_c (rd_p _ _) (rds_nil _)) op_all)) ?_⟩
  rw [endF_p]
  simp
end
end Law

namespace Law
open PySem L2 Mir Pl
theorem set_lastD {S : Sto} (c d : Cell) : (S ++ [c]).set S.length d = S ++ [d] := by
  simp
theorem zip_rangeD {A B : Type} (d : A) (e : B) {l : List A} {m : List B} (h : l.length = m.length) : l.zip m = (List.range m.length).map fun k => (l.getD k d, m.getD k e) := by
  apply List.ext_getElem
  · rw [List.length_zip, List.length_map, List.length_range, h, Nat.min_self]
  · intro i h1 h2
    rw [List.length_map, List.length_range] at h2
    have hl : i < l.length := by omega
    rw [List.getElem_zip, List.getElem_map, List.getElem_range, List.getD_eq_getElem?_getD, List.getD_eq_getElem?_getD, List.getElem?_eq_getElem hl, List.getElem?_eq_getElem h2]
    rfl
theorem fm_strD {tx : List Nat} (h : tx.length ≤ 100000) : fmt1 (.p (.str tx)) = some tx := by
  show (if tx.length ≤ 100000 then some tx else none) = _
  rw [if_pos h]
theorem it_numsD {ρ' : En} {l : List Nat} {m : ME} (h : m ρ' S = .ok (.p (.lst (nums l))) S) : itOf m ρ' S = .ok (l.map fun (n : Nat) => P.int (n : Int)) S := ev_itOf h fr_p rfl
section
variable {n : Nat} {order near : List (List Nat)} (h : Spc n order near)
include h
theorem jn_rowD {i : Nat} (hi : i < n) {ρ : En} {S : Sto} (h3 : ρ[3]? = some (some (.p (.str (order.getD i []))))) (h5 : ρ[5]? = some (some (.p (.str (TL.joinL [32] (pick order (row near i))))))) : eJoin (jFmt (eVar 3) (jTxt [58, 32] (jFmt (eVar 5) jNil))) ρ S = .ok (.p (.str (rowAt order near i))) S := by
  have l1 := (h.at_ hi).len
  have l2 := h.row_len hi
  unfold rowAt rowT at l2
  rw [List.length_append, List.length_append] at l2
  have e1 : eVar 3 ρ S = .ok (.p (.str (order.getD i []))) S := ev_var h3
  have e2 : eVar 5 ρ S = .ok (.p (.str (TL.joinL [32] (pick order (row near i))))) S := ev_var h5
  unfold eJoin jTxt jFmt jNil
  rw [e1, bind_ok, fm_strD (by omega)]
  dsimp only
  rw [if_pos (by simp only [List.nil_append, List.length_nil]; omega), if_pos (by simp only [List.nil_append, List.length_cons, List.length_nil]; omega), e2, bind_ok, fm_strD (by omega)]
  dsimp only
  rw [if_pos (by simp only [List.nil_append, List.length_append, List.length_cons, List.length_nil]; simp only [List.length_cons, List.length_nil] at l2; omega), bind_ok]
  unfold rowAt rowT
  simp only [List.nil_append, List.append_assoc]
theorem text_ofD (S : Sto) : m_text_of [.p (.lst (txts order)), .p (.lst (nums (bitsL near)))] S = .ok (.p (.str (textT n order near))) S := by
  have hle := h.le
  have lb : (bitsL near).length = n := by unfold bitsL; rw [List.length_map]; exact h.near.len
  have hz : ∀ ρ T, ρ[0]? = some (some (.p (.lst (txts order)))) → ρ[1]? = some (some (.p (.lst (nums (bitsL near))))) → itZip (eVar 0) (eVar 1) ρ T = .ok ((List.range n).map fun k => P.tup [.str (order.getD k []), .int ((bitsN (row near k) : Nat) : Int)]) T := fun ρ T h1 h2 => by
    have := ev_zip (us := order) (f := P.str) (ws := bitsL near) (g := fun (b : Nat) => P.int (b : Int)) (a := eVar 0) (b := eVar 1) (ev_var h1) (ev_var (S := T) h2)
    rw [this, zip_rangeD [] 0 (h.len.trans lb.symm), List.map_map, lb]
    congr 1
    refine List.map_congr_left fun k hk => ?_
    have hk := List.mem_range.mp hk
    show P.tup [.str (order.getD k []), .int (((bitsL near).getD k 0 : Nat) : Int)] = _
    have : (bitsL near).getD k 0 = bitsN (row near k) := by
      unfold bitsL row
      rw [List.getD_eq_getElem?_getD, List.getElem?_map, List.getD_eq_getElem?_getD, List.getElem?_eq_getElem (by rw [h.near.len]; exact hk)]
      rfl
    rw [this]
  have lp : WS (sFor (itZip (eVar 0) (eVar 1)) (gTp 2 (gCn (gNm 3) (gCn (gNm 4) gNl))) (sSeq (sAsg (eMthT "str" pJoin (eC (.str [32])) (aCons (eLc (itOf (eFn m_indexes_of (aCons (eVar 4) aNil))) [6] (gNm 6) tsYes (eItem (eVar 0) (eVar 6))) aNil)) (gNm 5)) (sExpr (eMut isL fApp (eVar 2) (aCons (eJoin (jFmt (eVar 3) (jTxt [58, 32] (jFmt (eVar 5) jNil)))) aNil)))) [some (.p (.lst (txts order))), some (.p (.lst (nums (bitsL near)))), some (.c S.length), none, none, none, none] (S ++ [.lst []])) fun fl T => ∃ a3 a4 a5, fl = .nx [some (.p (.lst (txts order))), some (.p (.lst (nums (bitsL near)))), some (.c S.length), a3, a4, a5, none] ∧ T = S ++ [.lst (txts ((List.range n).map (rowAt order near)))] := by
    refine ws_forM (us := List.range n) (en := fun k => P.tup [.str (order.getD k []), .int ((bitsN (row near k) : Nat) : Int)]) (fun i ρ T => ∃ a3 a4 a5, ρ = [some (.p (.lst (txts order))), some (.p (.lst (nums (bitsL near)))), some (.c S.length), a3, a4, a5, none] ∧ T = S ++ [.lst (txts ((List.range i).map (rowAt order near)))]) (hz _ _ rfl rfl) ⟨_, _, _, rfl, rfl⟩ ?_ ?_
    · rintro i u ρ T hu ⟨a3, a4, a5, rfl, rfl⟩
      have hi : i < n := by
        have := (List.getElem?_eq_some_iff.mp hu).1
        rwa [List.length_range] at this
      rw [List.getElem?_range hi] at hu
      cases hu
      have c0 : (S ++ [Cell.lst (txts ((List.range i).map (rowAt order near)))])[S.length]? = some (.lst (txts ((List.range i).map (rowAt order near)))) := by simp
      refine ⟨_, _, ev_gtp (vs := [.p (.str (order.getD i [])), .p (.int ((bitsN (row near i) : Nat) : Int))]) rfl rfl (ev_gcn (ev_gnm rfl) (ev_gcn (ev_gnm rfl) ev_gnl)), ?_⟩
      have lr : Lot n (row near i) := ⟨h.near.srt i hi, h.near.lt i hi⟩
      have ix := indexes_of_ok (n := n) lr.bits (by omega) (S ++ [Cell.lst (txts ((List.range i).map (rowAt order near)))])
      rw [mem_bits lr.srt lr.lt] at ix
      have lc := ev_lcm (ys := row near i) (en := fun (k : Nat) => P.int (k : Int)) (f := fun k => P.str (order.getD k [])) (it := itOf (eFn m_indexes_of (aCons (eVar 4) aNil))) (vs := [6]) (g := gNm 6) (a := eItem (eVar 0) (eVar 6)) (ρ := [some (.p (.lst (txts order))), some (.p (.lst (nums (bitsL near)))), some (.c S.length), some (.p (.str (order.getD i []))), some (.p (.int ((bitsN (row near i) : Nat) : Int))), a5, none]) (S := S ++ [Cell.lst (txts ((List.range i).map (rowAt order near)))]) (S1 := S ++ [Cell.lst (txts ((List.range i).map (rowAt order near)))]) (ρ1 := fun (k : Nat) => [some (.p (.lst (txts order))), some (.p (.lst (nums (bitsL near)))), some (.c S.length), some (.p (.str (order.getD i []))), some (.p (.int ((bitsN (row near i) : Nat) : Int))), a5, some (.p (.int (k : Int)))]) (it_numsD (ev_fn (ev_acons (ev_var rfl) ev_anil) ix)) (by have := lr.len; omega) rfl (fun k _ => ev_gnm rfl) (fun k hk => ev_item (ev_var rfl) (ev_var rfl) (ixv_p (x := .lst (txts order)) (by
        have hk := lr.lt k hk
        show atI (txts order) (k : Int) = _
        refine atN ?_
        unfold txts
        rw [List.getElem?_map, List.getElem?_eq_getElem (by rw [h.len]; exact hk), List.getD_eq_getElem?_getD, List.getElem?_eq_getElem (by rw [h.len]; exact hk)]
        rfl)))
      have e1 : ((row near i).map fun k => P.str (order.getD k [])) = txts (pick order (row near i)) := by
        unfold txts pick
        rw [List.map_map]
        rfl
      rw [e1] at lc
      have jl := joinL_len [32] (pick order (row near i))
      have js := sum_len_le (l := pick order (row near i)) (c := 8) fun y hy => (h.pk hi y hy).len
      have jp := h.pk_len hi
      have jn := pJoin_txts (s := [32]) (l := pick order (row near i)) (by simp only [List.length_cons, List.length_nil]; omega)
      have ap := app_p (z := .str (rowAt order near i)) c0 (by unfold txts; rw [List.length_map, List.length_map, List.length_range]; omega)
      rw [set_lastD, show txts ((List.range i).map (rowAt order near)) ++ [P.str (rowAt order near i)] = txts ((List.range (i + 1)).map (rowAt order near)) by unfold txts; rw [List.range_succ]; simp] at ap
      refine ws_seq (ev_asg (ev_mth ev_c (rd_p _ _) rfl (ev_acons lc ev_anil) rfl (rds_c (rd_p _ _) (rds_nil _)) jn) (ev_gnm rfl)) ?_
      exact ws_of (ev_expr (ev_mut (ev_var rfl) (isL_c c0) (ev_acons (jn_rowD h hi rfl rfl) ev_anil) ap)) ⟨_, .inl rfl, _, _, _, rfl, rfl⟩
    · rintro ρ T ⟨a3, a4, a5, rfl, rfl⟩
      rw [List.length_range]
      exact ⟨a3, a4, a5, rfl, rfl⟩
  obtain ⟨fl, T, e, a3, a4, a5, rfl, rfl⟩ := lp
  have c0 : (S ++ [Cell.lst (txts ((List.range n).map (rowAt order near)))])[S.length]? = some (.lst (txts ((List.range n).map (rowAt order near)))) := by simp
  have sl := sum_len_le (l := (List.range n).map (rowAt order near)) (c := 2400) fun y hy => by
    obtain ⟨i, hi, rfl⟩ := List.mem_map.mp hy
    exact h.row_len (List.mem_range.mp hi)
  rw [List.length_map, List.length_range] at sl
  have jn := pJoin_txts (s := [10]) (l := (List.range n).map (rowAt order near)) (by rw [List.length_map ((rowAt order near)), List.length_range]; simp only [List.length_cons, List.length_nil]; omega)
  unfold m_text_of b_text_of
  refine ws_mkFe (ρ := [some (.p (.lst (txts order))), some (.p (.lst (nums (bitsL near)))), none, none, none, none, none]) rfl rfl ?_
  refine ws_seq (ev_asg (ev_lstC ev_anil frzs_z (by simp)) (ev_gnm rfl)) ?_
  refine ws_seq e (ws_of (ev_ret (ev_mth ev_c (rd_p _ _) rfl (ev_acons (ev_var rfl) ev_anil) rfl (rds_c (rd_lst c0) (rds_nil _)) jn)) ?_)
  rw [endF_p, take_app]
  rfl
end
end Law

namespace Mir
open PySem L2
theorem ev_gfldD {c f : Str} {o : ME} {ρ : En} {S S1 S2 : Sto} {d e : Vl} (ho : o ρ S = .ok e S1) (hf : fSet c f e d S1 = .ok () S2) : gFldM c f o d ρ S = .ok ρ S2 := by
  unfold gFldM
  rw [ho, nox_ok, bind_ok, hf, bind_ok]
theorem bnnD (x : Int) : Builtin.bitNot (Builtin.bitNot x) = x := by
  unfold Builtin.bitNot
  omega
theorem bor_natD (a b : Nat) : Builtin.bitOr (a : Int) (b : Int) = ((a ||| b : Nat) : Int) := by
  unfold Builtin.bitOr Builtin.bitAnd
  have h1 : decide (0 ≤ Builtin.bitNot (a : Int)) = false := by
    unfold Builtin.bitNot
    exact decide_eq_false (by omega)
  have h2 : decide (0 ≤ Builtin.bitNot (b : Int)) = false := by
    unfold Builtin.bitNot
    exact decide_eq_false (by omega)
  rw [h1, h2]
  dsimp only
  rw [bnnD, bnnD, bnnD, Int.toNat_natCast, Int.toNat_natCast]
theorem cutD_map {A B : Type} (f : A → B) (xs : List A) (lo hi : Option Int) : cutP (xs.map f) lo hi = (cutP xs lo hi).map f := by
  unfold cutP
  simp
theorem cutD_from {A : Type} (xs : List A) (k : Nat) (h : k ≤ xs.length) : cutP xs (some (k : Int)) none = xs.drop k := by
  unfold cutP
  rw [HT.sIx_nat, HT.sIx_none, Nat.min_eq_left h]
  rw [List.take_of_length_le (by rw [List.length_drop]; exact Nat.le_refl _)]
theorem cutD_to {A : Type} (xs : List A) (k : Nat) (h : k ≤ xs.length) : cutP xs none (some (k : Int)) = xs.take k := by
  unfold cutP
  rw [HT.sIx_nat, HT.sIx_none, Nat.min_eq_left h, List.drop_zero, Nat.sub_zero]
theorem ev_astarD {a : ME} {r : MA} {ρ : En} {S S1 S2 : Sto} {d : Vl} {ds : List Vl} {xs : List P} (hm : a ρ S = .ok d S1) (hd : Mir.rd S1 d = some (.lst xs)) (hr : r ρ S1 = .ok ds S2) : aStar a r ρ S = .ok (xs.map Vl.p ++ ds) S2 := by
  unfold aStar
  rw [hm, bind_ok, hd]
  dsimp only
  rw [hr, bind_ok]
theorem op_borD {a b : Nat} : pI (fun i j => Builtin.bitOr i j) (.int (a : Int)) (.int (b : Int)) = some (.int ((a ||| b : Nat) : Int)) := by
  show some (P.int (Builtin.bitOr (a : Int) (b : Int))) = _
  rw [bor_natD]
theorem op_shlD {a b : Nat} (ha : a < 2 ^ 64) (hb : b ≤ 1000) : pIC bPow (fun i j => i * 2 ^ j.toNat) (.int (a : Int)) (.int (b : Int)) = some (.int ((a * 2 ^ b : Nat) : Int)) := by
  have h1 : bPow (a : Int) (b : Int) = true := by
    unfold bPow
    rw [decide_eq_true (show (0 : Int) ≤ (b : Int) by omega), decide_eq_true (show (b : Int) ≤ 1000000 by omega), decide_eq_true (show (a : Int).natAbs < 2 ^ 64 by omega)]
    rfl
  rw [pIC_int, h1, if_pos rfl, Int.toNat_natCast]
  congr 2
end Mir
namespace Law
open PySem L2 Mir Pl
structure Sp3 where
  n : Nat
  order : List (List Nat)
  near : List (List Nat)
abbrev Sp3.P (s : Sp3) : P := spcP s.n s.order s.near
abbrev Sp3.ok (s : Sp3) : Prop := Spc s.n s.order s.near
def heldP : List Sp3 → P
  | [] => .non
  | s :: hs => .tup [s.P, heldP hs, .int ((hs.length : Nat) : Int)]
abbrev DrC (hs : List Sp3) : Cell := .ins "Draft" ["held"] [.p (heldP hs)]
section
variable {S : Sto} {d : Nat} {s : Sp3} {hs : List Sp3}
theorem nv_dr (h : S[d]? = some (DrC hs)) : nv S (.c d) = .c d := by
  unfold nv
  dsimp only
  rw [h]
theorem isC_dr (h : S[d]? = some (DrC hs)) : isC "Draft" S (nv S (.c d)) = true := by
  rw [nv_dr h]
  unfold isC
  dsimp only
  rw [h]
  rfl
theorem isO_dr {f : PySem.Str} (h : S[d]? = some (DrC hs)) (hf : f ≠ "held") : isO "Draft" f S (nv S (.c d)) = true := by
  rw [nv_dr h]
  unfold isO
  dsimp only
  rw [h]
  dsimp only
  rw [decide_eq_true rfl, Bool.true_and, decide_eq_true_eq]
  exact fun z => hf (List.mem_singleton.mp z)
theorem fld_held (h : S[d]? = some (DrC hs)) : fldV "Draft" "held" (nv S (.c d)) S = .ok (.p (heldP hs)) S := by
  rw [nv_dr h]
  unfold fldV
  dsimp only
  rw [h]
  rfl
theorem set_held {x : P} (h : S[d]? = some (DrC hs)) : fSet "Draft" "held" (.c d) (.p x) S = .ok () (S.set d (.ins "Draft" ["held"] [.p x])) := by
  show putC "Draft" "held" d (.p x) S = _
  unfold putC
  rw [h]
  dsimp only
  rw [if_pos ⟨rfl, by decide⟩]
  rfl
theorem dr_space (h : S[d]? = some (DrC (s :: hs))) : m_Draft_space [.c d] S = .ok (.p s.P) S := by
  unfold m_Draft_space b_Draft_space
  refine ev_mkF rfl rfl (ev_ret (ev_item (ev_fld (ev_var rfl) (fld_held h)) ev_c (ixv_p (x := heldP (s :: hs)) (y := .int 0) (z := s.P) rfl))) ?_
  rw [endF_p, take_self]
theorem dr_changes (h : S[d]? = some (DrC (s :: hs))) : m_Draft_changes [.c d] S = .ok (.p (.int ((hs.length : Nat) : Int))) S := by
  unfold m_Draft_changes b_Draft_changes
  refine ev_mkF rfl rfl (ev_ret (ev_item (ev_fld (ev_var rfl) (fld_held h)) ev_c (ixv_p (x := heldP (s :: hs)) (y := .int 2) (z := .int ((hs.length : Nat) : Int)) rfl))) ?_
  rw [endF_p, take_self]
theorem dr_prop {ρ : En} {i : Nat} (hi : ρ[i]? = some (some (.c d))) (h : S[d]? = some (DrC (s :: hs))) : eProp "Draft" m_Draft_space (eVar i) ρ S = .ok (.p s.P) S := ev_prop (ev_var hi) (isC_dr h) (dr_space h)
theorem dr_make (S : Sto) : mkO true "Draft" m_Draft___init__ [.p s.P] S = .ok (.c S.length) (S ++ [DrC [s]]) := by
  have hk : (S ++ [Cell.ins "Draft" [] []])[S.length]? = some (.ins "Draft" [] []) := by simp
  have e : m_Draft___init__ [.c S.length, .p s.P] (S ++ [.ins "Draft" [] []]) = .ok (.p .non) (S ++ [DrC [s]]) := by
    unfold m_Draft___init__ b_Draft___init__
    refine ws_mkFe (ρ := [some (.c S.length), some (.p s.P)]) rfl rfl ?_
    refine ws_seq (ev_expr (ev_fn (ev_acons (ev_var rfl) ev_anil) (check_space_ok _ _ _ _))) ?_
    refine ws_of (ev_asg (ev_tup (ev_acons (ev_var rfl) (ev_acons ev_c (ev_acons ev_c ev_anil))) (frzs_s fr_p (frzs_s fr_p (frzs_s fr_p frzs_z))) (by simp)) (ev_gfldD (ev_var rfl) (fSet_end (c := "Draft") (f := "held") (ns := []) (xs := []) (by simp) rfl (by decide)))) ?_
    rw [endF_nx, take_len (by simp)]
    rfl
  show endO true S.length (m_Draft___init__ [.c S.length, .p s.P] (S ++ [.ins "Draft" [] []])) = _
  rw [e]
  rfl
theorem dr_become {s' : Sp3} (h' : s'.ok) (h : S[d]? = some (DrC (s :: hs))) : m_Draft_become [.c d, .p (.lst (txts s'.order)), .p (.lst (nums (bitsL s'.near)))] S = .ok (.p .non) (S.set d (DrC (s' :: s :: hs))) := by
  unfold m_Draft_become b_Draft_become
  refine ws_mkFe (ρ := [some (.c d), some (.p (.lst (txts s'.order))), some (.p (.lst (nums (bitsL s'.near))))]) rfl rfl ?_
  refine ws_of (ev_asg (ev_tup (ev_acons (ev_make (ev_acons (ev_fn (ev_acons (ev_var rfl) (ev_acons (ev_var rfl) ev_anil)) (text_ofD h' S)) ev_anil) (make_ok h' S)) (ev_acons (ev_fld (ev_var rfl) (fld_held h)) (ev_acons (ev_bin (ev_item (ev_fld (ev_var rfl) (fld_held h)) ev_c (ixv_p (x := heldP (s :: hs)) (y := .int 2) (z := .int ((hs.length : Nat) : Int)) rfl)) ev_c (rd_p _ _) (rd_p _ _) op_addN1) ev_anil))) (frzs_s fr_p (frzs_s fr_p (frzs_s fr_p frzs_z))) (by simp)) (ev_gfldD (ev_var rfl) (set_held h))) ?_
  rw [endF_nx, take_len List.length_set]
  rfl
theorem dr_call {s' : Sp3} (h' : s'.ok) (h : S[d]? = some (DrC (s :: hs))) {ρ : En} {a b : ME} (h0 : ρ[0]? = some (some (.c d))) (ha : a ρ S = .ok (.p (.lst (txts s'.order))) S) (hb : b ρ S = .ok (.p (.lst (nums (bitsL s'.near)))) S) : sExpr (eMeth "Draft" "become" m_Draft_become (eVar 0) (aCons a (aCons b aNil))) ρ S = .ok (.nx ρ) (S.set d (DrC (s' :: s :: hs))) :=
  ev_expr (ev_meth (ev_var h0) (isO_dr h (by decide)) (ev_acons ha (ev_acons hb ev_anil)) (dr_become h' h))
theorem dr_undo {s2 : Sp3} (h : S[d]? = some (DrC (s :: s2 :: hs))) : m_Draft_undo [.c d] S = .ok (.p .non) (S.set d (DrC (s2 :: hs))) := by
  have i1 : ∀ {ρ : En}, ρ[0]? = some (some (.c d)) → eItem (eFld "Draft" "held" (eVar 0)) (eC (.int 1)) ρ S = .ok (.p (heldP (s2 :: hs))) S := fun {ρ} h0 => ev_item (ev_fld (ev_var h0) (fld_held h)) ev_c (ixv_p (x := heldP (s :: s2 :: hs)) (y := .int 1) (z := heldP (s2 :: hs)) rfl)
  unfold m_Draft_undo b_Draft_undo
  refine ws_mkFe (ρ := [some (.c d)]) rfl rfl ?_
  refine ws_seq (ev_sif (ev_tval (q := false) (ev_isN (i1 rfl) rfl)) (ifK_f ev_pass)) ?_
  refine ws_of (ev_asg (i1 rfl) (ev_gfldD (ev_var rfl) (set_held h))) ?_
  rw [endF_nx, take_len List.length_set]
variable (ok : s.ok)
include ok
theorem dr_add {s' : Sp3} (h' : s'.ok) {x : List Nat} (hx : NameOk x) (hni : x ∉ s.order) (hn : s.n < 256) (eo : s'.order = s.order ++ [x]) (en : bitsL s'.near = bitsL s.near ++ [2 ^ s.n]) (h : S[d]? = some (DrC (s :: hs))) : m_Draft_add [.c d, .p (.str x)] S = .ok (.p .non) (S.set d (DrC (s' :: s :: hs))) := by
  have lo : s.order.length = s.n := ok.len
  have ni : pIn2 (.str x) (.lst (txts s.order)) = some (.bl false) := by
    have := op_inSL' (x := x) (l := s.order)
    rw [show s.order.contains x = false from by rw [Bool.eq_false_iff]; exact fun z => hni (List.contains_iff_mem.mp z)] at this
    exact this
  let E (a2 a3 : Option Vl) : En := [some (.c d), some (.p (.str x)), a2, a3]
  unfold m_Draft_add b_Draft_add
  refine ws_mkFe (ρ := E none none) rfl rfl ?_
  refine ws_seq (ev_sif (ev_tnot (ev_tval (ev_fn (ev_acons (ev_var rfl) ev_anil) (hx.is S))) rfl) (ifK_f ev_pass)) ?_
  refine ws_seq (ev_par (ev_acons (ev_fld (dr_prop rfl h) (fldn_order _ _ _ S)) (ev_acons (ev_fld (dr_prop rfl h) (fldn_seen _ _ _ S)) ev_anil)) rfl) ?_
  refine ws_seq (ev_sif (ev_tval (ev_bin (ev_var rfl) (ev_var rfl) (rd_p _ _) (rd_p _ _) ni)) (ifK_f ev_pass)) ?_
  have ln : ∀ {ρ : En}, ρ[2]? = some (some (.p (.lst (txts s.order)))) → eCall pLen (aCons (eVar 2) aNil) ρ S = .ok (.p (.int ((s.n : Nat) : Int))) S := fun {ρ} h2 => ev_call (ev_acons (ev_var h2) ev_anil) (rds_c (rd_p _ _) (rds_nil _)) (by rw [op_lenLm, lo])
  have eq256 : pEq (.int ((s.n : Nat) : Int)) (.int 256) = some (.bl false) := by
    have := op_eqN (a := s.n) (b := 256)
    rw [show (s.n == 256) = false from by simp; omega] at this
    exact this
  refine ws_seq (ev_sif (ev_tval (ev_bin (ln rfl) ev_c (rd_p _ _) (rd_p _ _) eq256)) (ifK_f ev_pass)) ?_
  have a1 : eLst (aStar (eVar 2) (aCons (eVar 1) aNil)) (E (some (.p (.lst (txts s.order)))) (some (.p (.lst (nums (bitsL s.near)))))) S = .ok (.p (.lst (txts s'.order))) S := by
    have e2 : eLst (aStar (eVar 2) (aCons (eVar 1) aNil)) (E (some (.p (.lst (txts s.order)))) (some (.p (.lst (nums (bitsL s.near)))))) S = .ok (.p (.lst (txts s.order ++ [.str x]))) S := by
      have st : aStar (eVar 2) (aCons (eVar 1) aNil) (E (some (.p (.lst (txts s.order)))) (some (.p (.lst (nums (bitsL s.near)))))) S = .ok ((txts s.order ++ [P.str x]).map Vl.p) S := by
        rw [List.map_append]
        exact ev_astarD (ev_var rfl) (rd_p _ _) (ev_acons (ev_var rfl) ev_anil)
      exact ev_lst st (frzs_p _ _) (by rw [List.length_append, List.length_map]; simp; omega)
    rw [e2, eo]
    unfold txts
    rw [List.map_append]
    rfl
  have lb : (bitsL s.near).length = s.n := by unfold bitsL; rw [List.length_map]; exact ok.near.len
  have a2 : eLst (aStar (eVar 3) (aCons (eBin (pIC bPow fun i j => i * 2 ^ j.toNat) (eC (.int 1)) (eCall pLen (aCons (eVar 2) aNil))) aNil)) (E (some (.p (.lst (txts s.order)))) (some (.p (.lst (nums (bitsL s.near)))))) S = .ok (.p (.lst (nums (bitsL s'.near)))) S := by
    have e2 : eLst (aStar (eVar 3) (aCons (eBin (pIC bPow fun i j => i * 2 ^ j.toNat) (eC (.int 1)) (eCall pLen (aCons (eVar 2) aNil))) aNil)) (E (some (.p (.lst (txts s.order)))) (some (.p (.lst (nums (bitsL s.near)))))) S = .ok (.p (.lst (nums (bitsL s.near) ++ [.int ((2 ^ s.n : Nat) : Int)]))) S := by
      have st : aStar (eVar 3) (aCons (eBin (pIC bPow fun i j => i * 2 ^ j.toNat) (eC (.int 1)) (eCall pLen (aCons (eVar 2) aNil))) aNil) (E (some (.p (.lst (txts s.order)))) (some (.p (.lst (nums (bitsL s.near)))))) S = .ok ((nums (bitsL s.near) ++ [P.int ((2 ^ s.n : Nat) : Int)]).map Vl.p) S := by
        rw [List.map_append]
        exact ev_astarD (ev_var rfl) (rd_p _ _) (ev_acons (ev_bin ev_c (ln rfl) (rd_p _ _) (rd_p _ _) (op_shl (by omega))) ev_anil)
      exact ev_lst st (frzs_p _ _) (by rw [List.length_append, List.length_map]; simp; omega)
    rw [e2, en]
    unfold nums
    rw [List.map_append]
    rfl
  refine ws_of (dr_call h' h rfl a1 a2) ?_
  rw [endF_nx, take_len List.length_set]
theorem pt_ok {k : Nat} (hk : k < s.n) (h : S[d]? = some (DrC (s :: hs))) {ρ : En} {i : Nat} (h0 : ρ[0]? = some (some (.c d))) (hi : ρ[i]? = some (some (.p (.str (s.order.getD k []))))) : sExpr (eFn m_check_point (aCons (eProp "Draft" m_Draft_space (eVar 0)) (aCons (eVar i) aNil))) ρ S = .ok (.nx ρ) S :=
  ev_expr (ev_fn (ev_acons (dr_prop h0 h) (ev_acons (ev_var hi) ev_anil)) (check_point_ok ok hk S))
theorem dr_link {s' : Sp3} (h' : s'.ok) {k t : Nat} (hk : k < s.n) (ht : t < s.n) (eo : s'.order = s.order) (en : bitsL s'.near = (bitsL s.near).map fun b => if b.testBit k then b ||| bitsN (row s.near t) else b) (h : S[d]? = some (DrC (s :: hs))) : m_Draft_link [.c d, .p (.str (s.order.getD k [])), .p (.str (s.order.getD t []))] S = .ok (.p .non) (S.set d (DrC (s' :: s :: hs))) := by
  have hle := ok.le
  let E (a3 a4 a5 a6 a7 : Option Vl) : En := [some (.c d), some (.p (.str (s.order.getD k []))), some (.p (.str (s.order.getD t []))), a3, a4, a5, a6, a7]
  have lb : (bitsL s.near).length = s.n := by unfold bitsL; rw [List.length_map]; exact ok.near.len
  have ix : ∀ {j : Nat} {i : Nat} {ρ : En}, j < s.n → ρ[3]? = some (some (.p (.lst (txts s.order)))) → ρ[i]? = some (some (.p (.str (s.order.getD j [])))) → eMthT "list" pIndex (eVar 3) (aCons (eVar i) aNil) ρ S = .ok (.p (.int (j : Int))) S := fun {j i ρ} hj h3 hi => ev_mth (ev_var h3) (rd_p _ _) rfl (ev_acons (ev_var hi) ev_anil) rfl (rds_c (rd_p _ _) (rds_nil _)) (pIdx_at ok.nd (by rw [ok.len]; exact hj))
  have it : atI (nums (bitsL s.near)) (t : Int) = some (.int ((bitsN (row s.near t) : Nat) : Int)) := by
    refine atN ?_
    have e1 : (bitsL s.near)[t]? = some (bitsN (row s.near t)) := by
      have := bitsL_at (near := s.near) (i := t) (by rw [ok.near.len]; exact ht)
      rw [List.getD_eq_getElem?_getD, List.getElem?_eq_getElem (by omega)] at this
      rw [List.getElem?_eq_getElem (by omega)]
      exact congrArg some this
    unfold nums
    rw [List.getElem?_map, e1]
    rfl
  unfold m_Draft_link b_Draft_link
  refine ws_mkFe (ρ := E none none none none none) rfl rfl ?_
  refine ws_seq (pt_ok ok hk h rfl rfl) ?_
  refine ws_seq (pt_ok ok ht h rfl rfl) ?_
  refine ws_seq (ev_par (ev_acons (ev_fld (dr_prop rfl h) (fldn_order _ _ _ S)) (ev_acons (ev_fld (dr_prop rfl h) (fldn_seen _ _ _ S)) ev_anil)) rfl) ?_
  refine ws_seq (ev_parG (ev_acons (ix hk rfl rfl) (ev_acons (ev_item (ev_var rfl) (ix ht rfl rfl) (ixv_p it)) ev_anil)) rfl (by decide) (ev_gcn (ev_gnm rfl) (ev_gcn (ev_gnm rfl) ev_gnl))) ?_
  have lc := ev_lcm (ys := bitsL s.near) (en := fun (b : Nat) => P.int (b : Int)) (f := fun (b : Nat) => P.int (((if b.testBit k then b ||| bitsN (row s.near t) else b : Nat)) : Int)) (it := itOf (eVar 4)) (vs := [7]) (g := gNm 7) (a := eIfM (tVal (eBin pEq (eBin (pI fun i j => Builtin.bitAnd i j) (eBin (pIC bShr fun i j => i / 2 ^ j.toNat) (eVar 7) (eVar 5)) (eC (.int 1))) (eC (.int 1)))) (eBin (pI fun i j => Builtin.bitOr i j) (eVar 7) (eVar 6)) (eVar 7)) (ρ := E (some (.p (.lst (txts s.order)))) (some (.p (.lst (nums (bitsL s.near))))) (some (.p (.int (k : Int)))) (some (.p (.int ((bitsN (row s.near t) : Nat) : Int)))) none) (S := S) (S1 := S) (ρ1 := fun (b : Nat) => E (some (.p (.lst (txts s.order)))) (some (.p (.lst (nums (bitsL s.near))))) (some (.p (.int (k : Int)))) (some (.p (.int ((bitsN (row s.near t) : Nat) : Int)))) (some (.p (.int (b : Int))))) (ev_itOf (ev_var rfl) fr_p rfl) (by omega) rfl (fun b _ => ev_gnm rfl) (fun b _ => by
    have tt : tVal (eBin pEq (eBin (pI fun i j => Builtin.bitAnd i j) (eBin (pIC bShr fun i j => i / 2 ^ j.toNat) (eVar 7) (eVar 5)) (eC (.int 1))) (eC (.int 1))) (E (some (.p (.lst (txts s.order)))) (some (.p (.lst (nums (bitsL s.near))))) (some (.p (.int (k : Int)))) (some (.p (.int ((bitsN (row s.near t) : Nat) : Int)))) (some (.p (.int (b : Int))))) S = .ok (b.testBit k) S := ev_tval (ev_bin (ev_bin (ev_bin (ev_var rfl) (ev_var rfl) (rd_p _ _) (rd_p _ _) op_shr) ev_c (rd_p _ _) (rd_p _ _) op_and1) ev_c (rd_p _ _) (rd_p _ _) op_eqB1)
    cases hb : b.testBit k with
    | true =>
      rw [hb] at tt
      exact ev_if tt (ifK_t (ev_bin (ev_var rfl) (ev_var rfl) (rd_p _ _) (rd_p _ _) op_borD))
    | false =>
      rw [hb] at tt
      exact ev_if tt (ifK_f (ev_var rfl)))
  have e3 : ((bitsL s.near).map fun (b : Nat) => P.int (((if b.testBit k then b ||| bitsN (row s.near t) else b : Nat)) : Int)) = nums (bitsL s'.near) := by
    rw [en]
    unfold nums
    rw [List.map_map]
    rfl
  rw [e3] at lc
  refine ws_of (dr_call h' h rfl (by rw [eo]; exact ev_var rfl) lc) ?_
  rw [endF_nx, take_len List.length_set]
theorem dr_cut {s' : Sp3} (h' : s'.ok) {k : Nat} (hk : k < s.n) (eo : s'.order = s.order) (en : bitsL s'.near = (List.range s.n).map fun i => if i = k then 2 ^ k else (bitsL s.near).getD i 0) (h : S[d]? = some (DrC (s :: hs))) : m_Draft_cut [.c d, .p (.str (s.order.getD k []))] S = .ok (.p .non) (S.set d (DrC (s' :: s :: hs))) := by
  have hle := ok.le
  let E (a2 a3 a4 a5 : Option Vl) : En := [some (.c d), some (.p (.str (s.order.getD k []))), a2, a3, a4, a5]
  have lb : (bitsL s.near).length = s.n := by unfold bitsL; rw [List.length_map]; exact ok.near.len
  unfold m_Draft_cut b_Draft_cut
  refine ws_mkFe (ρ := E none none none none) rfl rfl ?_
  refine ws_seq (pt_ok ok hk h rfl rfl) ?_
  refine ws_seq (ev_asg (ev_fld (dr_prop rfl h) (fldn_order _ _ _ S)) (ev_gnm rfl)) ?_
  refine ws_seq (ev_asg (ev_mth (ev_var rfl) (rd_p _ _) rfl (ev_acons (ev_var rfl) ev_anil) rfl (rds_c (rd_p _ _) (rds_nil _)) (pIdx_at ok.nd (by rw [ok.len]; exact hk))) (ev_gnm rfl)) ?_
  have hi : itEnum (eFld "Space" "seen" (eProp "Draft" m_Draft_space (eVar 0))) (E (some (.p (.lst (txts s.order)))) (some (.p (.int (k : Int)))) none none) S = .ok ((List.range s.n).map fun (i : Nat) => P.tup [.int (i : Int), .int (((bitsL s.near).getD i 0 : Nat) : Int)]) S := by
    have := ev_enumN (ls := bitsL s.near) (f := fun (b : Nat) => P.int (b : Int)) (a := eFld "Space" "seen" (eProp "Draft" m_Draft_space (eVar 0))) (ρ := E (some (.p (.lst (txts s.order)))) (some (.p (.int (k : Int)))) none none) (S := S) (S1 := S) (ev_fld (dr_prop rfl h) (fldn_seen _ _ _ S))
    rw [this, lb]
  have lc := ev_lcm (ys := List.range s.n) (en := fun (i : Nat) => P.tup [.int (i : Int), .int (((bitsL s.near).getD i 0 : Nat) : Int)]) (f := fun (i : Nat) => P.int (((if i = k then 2 ^ k else (bitsL s.near).getD i 0 : Nat)) : Int)) (vs := [4, 5]) (g := gTp 2 (gCn (gNm 4) (gCn (gNm 5) gNl))) (a := eIfM (tVal (eBin pEq (eVar 4) (eVar 3))) (eBin (pIC bPow fun i j => i * 2 ^ j.toNat) (eC (.int 1)) (eVar 3)) (eVar 5)) (ρ1 := fun (i : Nat) => E (some (.p (.lst (txts s.order)))) (some (.p (.int (k : Int)))) (some (.p (.int (i : Int)))) (some (.p (.int (((bitsL s.near).getD i 0 : Nat) : Int))))) hi (by rw [List.length_range]; omega) rfl (fun i _ => ev_gtp (vs := [.p (.int (i : Int)), .p (.int (((bitsL s.near).getD i 0 : Nat) : Int))]) rfl rfl (ev_gcn (ev_gnm rfl) (ev_gcn (ev_gnm rfl) ev_gnl))) (fun i _ => by
    have tt : tVal (eBin pEq (eVar 4) (eVar 3)) (E (some (.p (.lst (txts s.order)))) (some (.p (.int (k : Int)))) (some (.p (.int (i : Int)))) (some (.p (.int (((bitsL s.near).getD i 0 : Nat) : Int))))) S = .ok (i == k) S := ev_tval (ev_bin (ev_var rfl) (ev_var rfl) (rd_p _ _) (rd_p _ _) op_eqN)
    by_cases z : i = k
    · rw [show (i == k) = true from by simp [z]] at tt
      rw [if_pos z]
      exact ev_if tt (ifK_t (ev_bin ev_c (ev_var rfl) (rd_p _ _) (rd_p _ _) (op_shl (by omega))))
    · rw [show (i == k) = false from by simp [z]] at tt
      rw [if_neg z]
      exact ev_if tt (ifK_f (ev_var rfl)))
  have e3 : ((List.range s.n).map fun (i : Nat) => P.int (((if i = k then 2 ^ k else (bitsL s.near).getD i 0 : Nat)) : Int)) = nums (bitsL s'.near) := by
    rw [en]
    unfold nums
    rw [List.map_map]
    rfl
  rw [e3] at lc
  refine ws_of (dr_call h' h rfl (by rw [eo]; exact ev_var rfl) lc) ?_
  rw [endF_nx, take_len List.length_set]
theorem dr_remove {s' : Sp3} (h' : s'.ok) {k : Nat} (hk : k < s.n) (h2 : 2 ≤ s.n) (h60 : s.n ≤ 60) (eo : s'.order = s.order.take k ++ s.order.drop (k + 1)) (en : bitsL s'.near = (let l := (bitsL s.near).map fun b => (b &&& (2 ^ k - 1)) ||| (b / 2 ^ (k + 1)) * 2 ^ k; l.take k ++ l.drop (k + 1))) (h : S[d]? = some (DrC (s :: hs))) : m_Draft_remove [.c d, .p (.str (s.order.getD k []))] S = .ok (.p .non) (S.set d (DrC (s' :: s :: hs))) := by
  have hle := ok.le
  let E (a2 a3 a4 a7 : Option Vl) : En := [some (.c d), some (.p (.str (s.order.getD k []))), a2, a3, a4, some (.p (.lst (txts s.order))), some (.p (.lst (nums (bitsL s.near)))), a7]
  have lo : s.order.length = s.n := ok.len
  have lb : (bitsL s.near).length = s.n := by unfold bitsL; rw [List.length_map]; exact ok.near.len
  have b64 : ∀ b ∈ bitsL s.near, b < 2 ^ 64 := fun b hb => by
    obtain ⟨i, hi, rfl⟩ := List.getElem_of_mem hb
    have := bitsL_at (near := s.near) (i := i) (by rw [ok.near.len]; omega)
    rw [List.getD_eq_getElem?_getD, List.getElem?_eq_getElem hi] at this
    have e : (bitsL s.near)[i] = bitsN (row s.near i) := this
    rw [e]
    have lt := (rowLot ok.near (k := i) (by omega)).bits
    have : 2 ^ s.n ≤ 2 ^ 60 := Nat.pow_le_pow_right (by decide) h60
    have h6 : (2 : Nat) ^ 60 < 2 ^ 64 := by decide
    omega
  let f (b : Nat) : Nat := (b &&& (2 ^ k - 1)) ||| (b / 2 ^ (k + 1)) * 2 ^ k
  unfold m_Draft_remove b_Draft_remove
  refine ws_mkFe (ρ := [some (.c d), some (.p (.str (s.order.getD k []))), none, none, none, none, none, none]) rfl rfl ?_
  refine ws_seq (pt_ok ok hk h rfl rfl) ?_
  refine ws_seq (ev_par (ev_acons (ev_fld (dr_prop rfl h) (fldn_order _ _ _ S)) (ev_acons (ev_fld (dr_prop rfl h) (fldn_seen _ _ _ S)) ev_anil)) rfl) ?_
  have eq1 : pEq (.int ((s.n : Nat) : Int)) (.int 1) = some (.bl false) := by
    have := op_eqN (a := s.n) (b := 1)
    rw [show (s.n == 1) = false from by simp; omega] at this
    exact this
  refine ws_seq (ev_sif (ev_tval (ev_bin (ev_call (z := .int ((s.n : Nat) : Int)) (ev_acons (ev_var (ρ := E none none none none) rfl) ev_anil) (rds_c (rd_p _ _) (rds_nil _)) (by rw [op_lenLm, lo])) ev_c (rd_p _ _) (rd_p _ _) eq1)) (ifK_f ev_pass)) ?_
  refine ws_seq (ev_asg (ev_mth (ev_var rfl) (rd_p _ _) rfl (ev_acons (ev_var rfl) ev_anil) rfl (rds_c (rd_p _ _) (rds_nil _)) (pIdx_at ok.nd (by rw [ok.len]; exact hk))) (ev_gnm rfl)) ?_
  have p1 : 1 ≤ 2 ^ k := Nat.one_le_two_pow
  refine ws_seq (ev_asg (ev_bin (ev_bin ev_c (ev_var rfl) (rd_p _ _) (rd_p _ _) (op_shl (by omega))) ev_c (rd_p _ _) (rd_p _ _) (op_sub1 p1)) (ev_gnm rfl)) ?_
  have lc := ev_lcm (ys := bitsL s.near) (en := fun (b : Nat) => P.int (b : Int)) (f := fun (b : Nat) => P.int ((f b : Nat) : Int)) (it := itOf (eVar 6)) (vs := [7]) (g := gNm 7) (a := eBin (pI fun i j => Builtin.bitOr i j) (eBin (pI fun i j => Builtin.bitAnd i j) (eVar 7) (eVar 3)) (eBin (pIC bPow fun i j => i * 2 ^ j.toNat) (eBin (pIC bShr fun i j => i / 2 ^ j.toNat) (eVar 7) (eBin pAdd (eVar 2) (eC (.int 1)))) (eVar 2))) (ρ := E (some (.p (.int (k : Int)))) (some (.p (.int ((2 ^ k - 1 : Nat) : Int)))) none none) (S := S) (S1 := S) (ρ1 := fun (b : Nat) => E (some (.p (.int (k : Int)))) (some (.p (.int ((2 ^ k - 1 : Nat) : Int)))) none (some (.p (.int (b : Int))))) (ev_itOf (ev_var rfl) fr_p rfl) (by omega) rfl (fun b _ => ev_gnm rfl) (fun b hb => ev_bin (ev_bin (ev_var rfl) (ev_var rfl) (rd_p _ _) (rd_p _ _) op_band) (ev_bin (ev_bin (ev_var rfl) (ev_bin (ev_var rfl) ev_c (rd_p _ _) (rd_p _ _) op_addN1) (rd_p _ _) (rd_p _ _) op_shr) (ev_var rfl) (rd_p _ _) (rd_p _ _) (op_shlD (Nat.lt_of_le_of_lt (Nat.div_le_self _ _) (b64 b hb)) (by omega))) (rd_p _ _) (rd_p _ _) op_borD)
  have e3 : ((bitsL s.near).map fun (b : Nat) => P.int ((f b : Nat) : Int)) = nums ((bitsL s.near).map f) := by
    unfold nums
    rw [List.map_map]
    rfl
  rw [e3] at lc
  refine ws_seq (ev_asg lc (ev_gnm rfl)) ?_
  have hl : ((bitsL s.near).map f).length = s.n := by rw [List.length_map, lb]
  have cutS : ∀ {A : Type} {g : A → P} {l : List A} {ρ : En} {i : Nat}, l.length = s.n → ρ[i]? = some (some (.p (.lst (l.map g)))) → ρ[2]? = some (some (.p (.int (k : Int)))) → eBin pAdd (eSl (eVar i) oNo (oYes (eVar 2))) (eSl (eVar i) (oYes (eBin pAdd (eVar 2) (eC (.int 1)))) oNo) ρ S = .ok (.p (.lst ((l.take k ++ l.drop (k + 1)).map g))) S := fun {A g l ρ i} hl hi h2' => by
    have s1 : pSl none (some (k : Int)) (.lst (l.map g)) = some (.lst ((l.take k).map g)) := by
      show some (P.lst (cutP (l.map g) none (some (k : Int)))) = _
      rw [cutD_map, cutD_to l k (by omega)]
    have s2 : pSl (some ((k + 1 : Nat) : Int)) none (.lst (l.map g)) = some (.lst ((l.drop (k + 1)).map g)) := by
      show some (P.lst (cutP (l.map g) (some ((k + 1 : Nat) : Int)) none)) = _
      rw [cutD_map, cutD_from l (k + 1) (by omega)]
    exact ev_bin (ev_sl (ev_var hi) ev_ono (ev_oyes (ev_var h2')) (rd_p _ _) s1) (ev_sl (ev_var hi) (ev_oyes (ev_bin (ev_var h2') ev_c (rd_p _ _) (rd_p _ _) op_addN1)) ev_ono (rd_p _ _) s2) (rd_p _ _) (rd_p _ _) (op_addLm (by rw [List.length_take, List.length_drop]; omega))
  have a1 := cutS (g := P.str) (l := s.order) (ρ := E (some (.p (.int (k : Int)))) (some (.p (.int ((2 ^ k - 1 : Nat) : Int)))) (some (.p (.lst (nums ((bitsL s.near).map f))))) none) (i := 5) lo rfl rfl
  have a2 := cutS (g := fun (b : Nat) => P.int (b : Int)) (l := (bitsL s.near).map f) (ρ := E (some (.p (.int (k : Int)))) (some (.p (.int ((2 ^ k - 1 : Nat) : Int)))) (some (.p (.lst (nums ((bitsL s.near).map f))))) none) (i := 4) hl rfl rfl
  rw [← eo] at a1
  have en' : (((bitsL s.near).map f).take k ++ ((bitsL s.near).map f).drop (k + 1)) = bitsL s'.near := en.symm
  rw [en'] at a2
  refine ws_of (dr_call h' h rfl a1 a2) ?_
  rw [endF_nx, take_len List.length_set]
end
end Law

namespace Law
open PySem L2 Mir Pl
theorem poolT_ok : ∀ x ∈ poolT, NameOk x := by
  intro x hx
  unfold poolT at hx
  simp only [List.mem_cons, List.not_mem_nil, or_false] at hx
  rcases hx with rfl | rfl | rfl | rfl | rfl | rfl | rfl | rfl | rfl | rfl | rfl | rfl | rfl | rfl | rfl | rfl <;> exact ⟨name_of fun S => by kernel_rfl, by decide, by decide, by decide, by decide, by decide⟩
def nearD (n : Nat) (near : List (List Nat)) : Bool := near.length == n && (List.range n).all fun i => decide ((row near i).Pairwise (· < ·)) && ((row near i).all (fun e => decide (e < n)) && ((row near i).contains i && (row near i).all fun j => (row near j).all fun e => (row near i).contains e))
theorem nearD_ok {n : Nat} {near : List (List Nat)} (h : nearD n near = true) : Near n near := by
  unfold nearD at h
  obtain ⟨h1, h2⟩ := Bool.and_eq_true_iff.mp h
  have k : ∀ i, i < n → (row near i).Pairwise (· < ·) ∧ (∀ e ∈ row near i, e < n) ∧ i ∈ row near i ∧ ∀ j ∈ row near i, ∀ e ∈ row near j, e ∈ row near i := fun i hi => by
    have a := List.all_eq_true.mp h2 i (List.mem_range.mpr hi)
    obtain ⟨a1, a⟩ := Bool.and_eq_true_iff.mp a
    obtain ⟨a2, a⟩ := Bool.and_eq_true_iff.mp a
    obtain ⟨a3, a4⟩ := Bool.and_eq_true_iff.mp a
    exact ⟨of_decide_eq_true a1, fun e he => of_decide_eq_true (List.all_eq_true.mp a2 e he), List.contains_iff_mem.mp a3, fun j hj e he => List.contains_iff_mem.mp (List.all_eq_true.mp (List.all_eq_true.mp a4 j hj) e he)⟩
  exact ⟨eq_of_beq h1, fun i hi => (k i hi).1, fun i hi => (k i hi).2.1, fun i hi => (k i hi).2.2.1, fun i hi => (k i hi).2.2.2⟩
theorem spc_of {n : Nat} {order near : List (List Nat)} (hl : order.length = n) (nd : order.Nodup) (nm : ∀ x ∈ order, NameOk x) (h : nearD n near = true) (h0 : 0 < n) (h1 : n ≤ 256) : Spc n order near := ⟨hl, nd, nm, nearD_ok h, h0, h1⟩
theorem datL_all : ∀ {xs : List P} {m : Nat}, (∀ x ∈ xs, x.dat m = true) → datL xs m = true
  | [], _, _ => rfl
  | x :: xs, m, h => by
    show (x.dat m && datL xs m) = true
    rw [h x List.mem_cons_self, datL_all fun y hy => h y (List.mem_cons_of_mem _ hy)]
    rfl
theorem dat_txs {l : List (List Nat)} (h : ∀ x ∈ l, NameOk x) (m : Nat) : (P.tup (txts l)).dat (m + 1) = true := datL_all fun x hx => by
  obtain ⟨y, hy, rfl⟩ := List.mem_map.mp hx
  exact (h y hy).asc
section
variable {B : Sto} {d : Nat} {s s' : Sp3} {hs : List Sp3} (hd : d < B.length)
include hd
theorem w_at (c : Cell) : (B.set d c)[d]? = some c := List.getElem?_set_self hd
theorem w_prop {ρ : En} {i : Nat} (hi : ρ[i]? = some (some (.c d))) : eProp "Draft" m_Draft_space (eVar i) ρ (B.set d (DrC (s :: hs))) = .ok (.p s.P) (B.set d (DrC (s :: hs))) := dr_prop hi (w_at hd _)
theorem w_changes {ρ : En} {i : Nat} (hi : ρ[i]? = some (some (.c d))) : eProp "Draft" m_Draft_changes (eVar i) ρ (B.set d (DrC (s :: hs))) = .ok (.p (.int ((hs.length : Nat) : Int))) (B.set d (DrC (s :: hs))) := ev_prop (ev_var hi) (isC_dr (w_at hd _)) (dr_changes (w_at hd _))
theorem w_near (ok : s.ok) {ρ : En} {i j k : Nat} (hi : ρ[i]? = some (some (.c d))) (hk : k < s.n) (hj : ρ[j]? = some (some (.p (.str (s.order.getD k []))))) : eMeth "Space" "near" m_Space_near (eProp "Draft" m_Draft_space (eVar i)) (aCons (eVar j) aNil) ρ (B.set d (DrC (s :: hs))) = .ok (.p (setP s.order (row s.near k))) (B.set d (DrC (s :: hs))) :=
  ev_meth (w_prop hd hi) (by rw [nv_p]; rfl) (ev_acons (ev_var hj) ev_anil) (near_ok ok hk _)
theorem w_text {ρ : En} {i : Nat} (hi : ρ[i]? = some (some (.c d))) : eProp "Space" m_Space_text (eProp "Draft" m_Draft_space (eVar i)) ρ (B.set d (DrC (s :: hs))) = .ok (.p (.str (textT s.n s.order s.near))) (B.set d (DrC (s :: hs))) := by
  refine ev_prop (w_prop hd hi) (by rw [nv_p]; rfl) ?_
  unfold m_Space_text b_Space_text
  refine ev_mkF rfl rfl (ev_ret (ev_fld (ev_var rfl) (fldn_told _ _ _ _))) ?_
  rw [endF_p, take_self]
theorem w_points {ρ : En} {i : Nat} (hi : ρ[i]? = some (some (.c d))) : eProp "Space" m_Space_points (eProp "Draft" m_Draft_space (eVar i)) ρ (B.set d (DrC (s :: hs))) = .ok (.p (.tup (txts s.order))) (B.set d (DrC (s :: hs))) := by
  refine ev_prop (w_prop hd hi) (by rw [nv_p]; rfl) ?_
  unfold m_Space_points b_Space_points
  refine ev_mkF rfl rfl (ev_ret (ev_call (ev_acons (ev_fld (ev_var rfl) (fldn_order _ _ _ _)) ev_anil) (rds_c rfl (rds_nil _)) rfl)) ?_
  rw [endF_p, take_self]
variable (ok : s.ok) (h' : s'.ok)
include ok h'
end
section
variable (a b c e : List Nat)
abbrev s0 : Sp3 := ⟨2, [a, b], [[0, 1], [1]]⟩
abbrev s1 : Sp3 := ⟨3, [a, b, c], [[0, 1], [1], [2]]⟩
abbrev s2 : Sp3 := ⟨3, [a, b, c], [[0, 1, 2], [1, 2], [2]]⟩
abbrev s3 : Sp3 := ⟨4, [a, b, c, e], [[0, 1, 2], [1, 2], [2], [3]]⟩
abbrev s4 : Sp3 := ⟨4, [a, b, c, e], [[0, 1, 2, 3], [1, 2, 3], [2, 3], [3]]⟩
abbrev s5 : Sp3 := ⟨4, [a, b, c, e], [[0, 1, 2, 3], [1], [2, 3], [3]]⟩
abbrev s6 : Sp3 := ⟨4, [a, b, c, e], [[0, 1, 2, 3], [1], [0, 1, 2, 3], [0, 1, 2, 3]]⟩
abbrev s7 : Sp3 := ⟨3, [b, c, e], [[0], [0, 1, 2], [0, 1, 2]]⟩
end
structure T4 (a b c e : List Nat) : Prop where
  nd : [a, b, c, e].Nodup
  nm : ∀ x ∈ [a, b, c, e], NameOk x
theorem T4.ne {a b c e : List Nat} (t : T4 a b c e) : a ≠ b ∧ a ≠ c ∧ a ≠ e ∧ b ≠ c ∧ b ≠ e ∧ c ≠ e := by
  have := t.nd
  simp only [List.nodup_cons, List.mem_cons, List.not_mem_nil, or_false, not_or] at this
  exact ⟨this.1.1, this.1.2.1, this.1.2.2, this.2.1.1, this.2.1.2, this.2.2.1⟩
section
variable {a b c e : List Nat} (t : T4 a b c e)
include t
theorem na : NameOk a := t.nm a (by simp)
theorem nb : NameOk b := t.nm b (by simp)
theorem nc : NameOk c := t.nm c (by simp)
theorem of2 {near : List (List Nat)} (h : nearD 2 near = true) : (Sp3.mk 2 [a, b] near).ok := spc_of rfl (t.nd.sublist (List.prefix_append [a, b] [c, e]).sublist) (fun x hx => by
  simp only [List.mem_cons, List.not_mem_nil, or_false] at hx
  rcases hx with z | z <;> subst z
  · exact na t
  · exact nb t) h (by show 0 < 2; decide) (by show 2 ≤ 256; decide)
theorem of3 {near : List (List Nat)} (h : nearD 3 near = true) : (Sp3.mk 3 [a, b, c] near).ok := spc_of rfl (t.nd.sublist (List.prefix_append [a, b, c] [e]).sublist) (fun x hx => by
  simp only [List.mem_cons, List.not_mem_nil, or_false] at hx
  rcases hx with z | z | z <;> subst z
  · exact na t
  · exact nb t
  · exact nc t) h (by show 0 < 3; decide) (by show 3 ≤ 256; decide)
theorem k0 : (s0 a b).ok := of2 t (by decide)
theorem k2 : (s2 a b c).ok := of3 t (by decide)
end
section
variable (a b c e : List Nat)
abbrev h0 : List Sp3 := [s0 a b]
abbrev h1 : List Sp3 := s1 a b c :: h0 a b
abbrev h2 : List Sp3 := s2 a b c :: h1 a b c
abbrev h3 : List Sp3 := s3 a b c e :: h2 a b c
abbrev h4 : List Sp3 := s4 a b c e :: h3 a b c e
abbrev h5 : List Sp3 := s5 a b c e :: h4 a b c e
abbrev h6 : List Sp3 := s6 a b c e :: h5 a b c e
abbrev h7 : List Sp3 := s7 b c e :: h6 a b c e
abbrev h8 : List Sp3 := s7 b c e :: h7 a b c e
abbrev h9 : List Sp3 := s7 b c e :: h8 a b c e
abbrev X1 : List Nat := a ++ [58, 32] ++ a ++ [32] ++ b ++ [10] ++ b ++ [58, 32] ++ b ++ [10] ++ c ++ [58, 32] ++ c
abbrev X2 : List Nat := a ++ [58, 32] ++ a ++ [32] ++ b ++ [32] ++ c ++ [10] ++ b ++ [58, 32] ++ b ++ [32] ++ c ++ [10] ++ c ++ [58, 32] ++ c
theorem x1 : textT 3 [a, b, c] [[0, 1], [1], [2]] = X1 a b c := by
  show (a ++ ([58, 32] ++ (a ++ ([32] ++ b)))) ++ ([10] ++ ((b ++ ([58, 32] ++ b)) ++ ([10] ++ (c ++ ([58, 32] ++ c))))) = _
  simp only [X1, List.append_assoc, List.cons_append, List.nil_append]
theorem x2 : textT 3 [a, b, c] [[0, 1, 2], [1, 2], [2]] = X2 a b c := by
  show (a ++ ([58, 32] ++ (a ++ ([32] ++ (b ++ ([32] ++ c)))))) ++ ([10] ++ ((b ++ ([58, 32] ++ (b ++ ([32] ++ c)))) ++ ([10] ++ (c ++ ([58, 32] ++ c))))) = _
  simp only [X2, List.append_assoc, List.cons_append, List.nil_append]
end
theorem text_ascD {n : Nat} {order near : List (List Nat)} (h : Spc n order near) : asc (textT n order near) = true := by
  refine List.all_eq_true.mpr fun c hc => decide_eq_true (Decidable.byContradiction fun hn => ?_)
  have na : ∀ x, NameOk x → c ∉ x := fun x hx hm => by
    have := of_decide_eq_true (List.all_eq_true.mp hx.asc c hm)
    omega
  unfold textT at hc
  refine joinL_mem h (c := c) (s := [10]) (fun z => by rw [List.mem_singleton] at z; omega) (fun x hx => ?_) hc
  obtain ⟨i, hi, rfl⟩ := List.mem_map.mp hx
  have hi := List.mem_range.mp hi
  unfold rowAt rowT
  simp only [List.mem_append, not_or]
  refine ⟨na _ (h.at_ hi), fun z => ?_, joinL_mem h (c := c) (s := [32]) (fun z => by rw [List.mem_singleton] at z; omega) fun y hy => na _ (h.pk hi y hy)⟩
  have : c = 58 ∨ c = 32 := by simpa using z
  omega
theorem spc_eqD {n : Nat} {order near : List (List Nat)} (h : Spc n order near) (S : Sto) : m_Space___eq__ [.p (spcP n order near), .p (spcP n order near)] S = .ok (.p (.bl true)) S := by
  unfold m_Space___eq__ b_Space___eq__
  have e : pEq (.str (textT n order near)) (.str (textT n order near)) = some (.bl true) := op_eqX (text_ascD h)
  refine ev_mkF rfl rfl (ev_ret (ev_eand (ev_isi (q := true) (ev_var rfl) ev_c rfl rfl) (eandK_t (ev_bin (ev_fld (ev_var rfl) (fldn_told n order near S)) (ev_fld (ev_var rfl) (fldn_told n order near S)) rfl rfl e)))) ?_
  rw [endF_p, take_self]
end Law

namespace Law
open PySem L2 Mir Pl
def rowsF (n : Nat) (p : Nat → Nat → Bool) : List (List Nat) := (List.range n).map fun i => (List.range n).filter (p i)
theorem row_rowsF {n : Nat} {p : Nat → Nat → Bool} {i : Nat} (h : i < n) : row (rowsF n p) i = (List.range n).filter (p i) := by
  unfold row rowsF
  rw [List.getD_eq_getElem?_getD, List.getElem?_map, List.getElem?_range h]
  rfl
theorem mem_rowsF {n : Nat} {p : Nat → Nat → Bool} {i j : Nat} (h : i < n) : j ∈ row (rowsF n p) i ↔ j < n ∧ p i j = true := by
  rw [row_rowsF h, List.mem_filter, List.mem_range]
theorem near_rowsF {n : Nat} {p : Nat → Nat → Bool} (hr : ∀ i, i < n → p i i = true) (ht : ∀ i j e, i < n → j < n → e < n → p i j = true → p j e = true → p i e = true) : Near n (rowsF n p) := by
  refine ⟨by unfold rowsF; rw [List.length_map, List.length_range], fun i hi => ?_, fun i hi e he => ((mem_rowsF hi).mp he).1, fun i hi => (mem_rowsF hi).mpr ⟨hi, hr i hi⟩, fun i hi j hj e he => ?_⟩
  · rw [row_rowsF hi]
    exact List.Pairwise.sublist List.filter_sublist List.pairwise_lt_range
  · obtain ⟨h1, h2⟩ := (mem_rowsF hi).mp hj
    obtain ⟨h3, h4⟩ := (mem_rowsF h1).mp he
    exact (mem_rowsF hi).mpr ⟨h3, ht i j e hi h1 h3 h2 h4⟩
theorem bitsL_range {n : Nat} {near : List (List Nat)} (h : near.length = n) : bitsL near = (List.range n).map fun i => bitsN (row near i) := by
  unfold bitsL
  apply List.ext_getElem?
  intro i
  rw [List.getElem?_map, List.getElem?_map]
  by_cases hi : i < n
  · rw [List.getElem?_range hi, List.getElem?_eq_getElem (by omega)]
    show some (bitsN near[i]) = some (bitsN (row near i))
    unfold row
    rw [List.getD_eq_getElem?_getD, List.getElem?_eq_getElem (by omega)]
    rfl
  · rw [List.getElem?_eq_none (by omega), List.getElem?_eq_none (by rw [List.length_range]; omega)]
    rfl
theorem srt_nd {l : List Nat} (h : l.Pairwise (· < ·)) : l.Nodup := h.imp fun hab => by omega
theorem fil_nd {n : Nat} {p : Nat → Bool} : ((List.range n).filter p).Nodup := List.Pairwise.sublist List.filter_sublist List.nodup_range
theorem fil_con {n : Nat} {p : Nat → Bool} {j : Nat} : ((List.range n).filter p).contains j = (decide (j < n) && p j) := by
  rw [Bool.eq_iff_iff, List.contains_iff_mem, List.mem_filter, List.mem_range, Bool.and_eq_true, decide_eq_true_eq]
section
variable {s : Sp3} (ok : s.ok)
include ok
theorem row_nd {i : Nat} (hi : i < s.n) : (row s.near i).Nodup := srt_nd (ok.near.srt i hi)
theorem con_lt {i j : Nat} (hi : i < s.n) (h : (row s.near i).contains j = true) : j < s.n := ok.near.lt i hi j (List.contains_iff_mem.mp h)
theorem bits_near : bitsL s.near = (List.range s.n).map fun i => bitsN (row s.near i) := bitsL_range ok.near.len
end
def spAdd (s : Sp3) (x : List Nat) : Sp3 := ⟨s.n + 1, s.order ++ [x], s.near ++ [[s.n]]⟩
theorem row_app {near : List (List Nat)} {l : List Nat} {i : Nat} (h : i < near.length) : row (near ++ [l]) i = row near i := by
  unfold row
  rw [List.getD_eq_getElem?_getD, List.getD_eq_getElem?_getD, List.getElem?_append_left h]
theorem row_end {near : List (List Nat)} {l : List Nat} : row (near ++ [l]) near.length = l := by
  unfold row
  rw [List.getD_eq_getElem?_getD, List.getElem?_append_right (Nat.le_refl _)]
  simp
theorem spAdd_ok {s : Sp3} (ok : s.ok) {x : List Nat} (hx : NameOk x) (hni : x ∉ s.order) (hn : s.n < 256) : (spAdd s x).ok := by
  have hl := ok.near.len
  have hr : ∀ i, i < s.n → row (s.near ++ [[s.n]]) i = row s.near i := fun i hi => row_app (by omega)
  have he : row (s.near ++ [[s.n]]) s.n = [s.n] := by
    have := row_end (near := s.near) (l := [s.n])
    rwa [hl] at this
  refine ⟨by show (s.order ++ [x]).length = s.n + 1; rw [List.length_append, ok.len]; rfl, ?_, fun y hy => ?_, ⟨by show (s.near ++ [[s.n]]).length = s.n + 1; rw [List.length_append, hl]; rfl, fun i hi => ?_, fun i hi e hm => ?_, fun i hi => ?_, fun i hi j hj e hm => ?_⟩, by show 0 < s.n + 1; omega, by show s.n + 1 ≤ 256; omega⟩
  · show (s.order ++ [x]).Nodup
    rw [List.nodup_append]
    exact ⟨ok.nd, by simp, fun a ha b hb e => hni (by rw [← List.mem_singleton.mp hb, ← e]; exact ha)⟩
  · rcases List.mem_append.mp hy with h | h
    · exact ok.nm y h
    · rw [List.mem_singleton.mp h]; exact hx
  · have hi : i < s.n + 1 := hi
    show (row (s.near ++ [[s.n]]) i).Pairwise (· < ·)
    by_cases h : i < s.n
    · rw [hr i h]; exact ok.near.srt i h
    · rw [show i = s.n by omega, he]; simp
  · have hi : i < s.n + 1 := hi
    have hm : e ∈ row (s.near ++ [[s.n]]) i := hm
    show e < s.n + 1
    by_cases h : i < s.n
    · rw [hr i h] at hm; have := ok.near.lt i h e hm; omega
    · rw [show i = s.n by omega, he] at hm; rw [List.mem_singleton.mp hm]; omega
  · have hi : i < s.n + 1 := hi
    show i ∈ row (s.near ++ [[s.n]]) i
    by_cases h : i < s.n
    · rw [hr i h]; exact ok.near.rfl_ i h
    · rw [show i = s.n by omega, he]; simp
  · have hi : i < s.n + 1 := hi
    have hj : j ∈ row (s.near ++ [[s.n]]) i := hj
    have hm : e ∈ row (s.near ++ [[s.n]]) j := hm
    show e ∈ row (s.near ++ [[s.n]]) i
    by_cases h : i < s.n
    · rw [hr i h] at hj ⊢
      have hjl := ok.near.lt i h j hj
      rw [hr j hjl] at hm
      exact ok.near.trs i h j hj e hm
    · rw [show i = s.n by omega, he] at hj ⊢
      rw [List.mem_singleton.mp hj, he] at hm
      exact hm
theorem spAdd_bits {s : Sp3} (x : List Nat) : bitsL (spAdd s x).near = bitsL s.near ++ [2 ^ s.n] := by
  show bitsL (s.near ++ [[s.n]]) = _
  unfold bitsL
  rw [List.map_append]
  simp [bitsN]
def spLink (s : Sp3) (k t : Nat) : Sp3 := ⟨s.n, s.order, rowsF s.n fun i j => (row s.near i).contains j || ((row s.near i).contains k && (row s.near t).contains j)⟩
theorem con_mem {l : List Nat} {j : Nat} : l.contains j = true ↔ j ∈ l := List.contains_iff_mem
theorem spLink_ok {s : Sp3} (ok : s.ok) {k t : Nat} (hk : k < s.n) (ht : t < s.n) : (spLink s k t).ok := by
  refine ⟨ok.len, ok.nd, ok.nm, near_rowsF (fun i hi => ?_) (fun i j e hi hj he h1 h2 => ?_), ok.pos, ok.le⟩
  · rw [Bool.or_eq_true]
    exact .inl (con_mem.mpr (ok.near.rfl_ i hi))
  · simp only [Bool.or_eq_true, Bool.and_eq_true, con_mem] at h1 h2 ⊢
    have tr := ok.near.trs
    rcases h1 with h1 | ⟨h1, h1'⟩
    · rcases h2 with h2 | ⟨h2, h2'⟩
      · exact .inl (tr i hi j h1 e h2)
      · exact .inr ⟨tr i hi j h1 k h2, h2'⟩
    · rcases h2 with h2 | ⟨h2, h2'⟩
      · exact .inr ⟨h1, tr t ht j h1' e h2⟩
      · exact .inr ⟨h1, h2'⟩
theorem spLink_bits {s : Sp3} (ok : s.ok) {k t : Nat} (hk : k < s.n) (ht : t < s.n) : bitsL (spLink s k t).near = (bitsL s.near).map fun b => if b.testBit k then b ||| bitsN (row s.near t) else b := by
  have h1 := (spLink_ok ok hk ht).near.len
  rw [bitsL_range (n := s.n) h1, bits_near ok, List.map_map]
  refine List.map_congr_left fun i hi => ?_
  have hi := List.mem_range.mp hi
  show bitsN (row (rowsF s.n _) i) = if (bitsN (row s.near i)).testBit k then bitsN (row s.near i) ||| bitsN (row s.near t) else bitsN (row s.near i)
  rw [row_rowsF hi, bits_test (row_nd ok hi)]
  refine Nat.eq_of_testBit_eq fun j => ?_
  rw [bits_test fil_nd, fil_con]
  cases hc : (row s.near i).contains k with
  | true =>
    rw [if_pos rfl, Nat.testBit_or, bits_test (row_nd ok hi), bits_test (row_nd ok ht), Bool.true_and]
    cases a : (row s.near i).contains j <;> cases b : (row s.near t).contains j <;> simp
    · exact con_lt ok ht b
    · exact con_lt ok hi a
    · exact con_lt ok hi a
  | false =>
    rw [if_neg Bool.false_ne_true, bits_test (row_nd ok hi), Bool.false_and, Bool.or_false]
    cases a : (row s.near i).contains j <;> simp
    exact con_lt ok hi a
def spCut (s : Sp3) (k : Nat) : Sp3 := ⟨s.n, s.order, rowsF s.n fun i j => if i = k then j == k else (row s.near i).contains j⟩
theorem spCut_ok {s : Sp3} (ok : s.ok) {k : Nat} (hk : k < s.n) : (spCut s k).ok := by
  refine ⟨ok.len, ok.nd, ok.nm, near_rowsF (fun i hi => ?_) (fun i j e hi hj he h1 h2 => ?_), ok.pos, ok.le⟩
  · by_cases h : i = k
    · rw [if_pos h, h]; simp
    · rw [if_neg h]; exact con_mem.mpr (ok.near.rfl_ i hi)
  · by_cases h : i = k
    · rw [if_pos h] at h1 ⊢
      have hj2 : j = k := by simpa using h1
      rw [if_pos hj2] at h2
      exact h2
    · rw [if_neg h] at h1 ⊢
      by_cases h3 : j = k
      · rw [if_pos h3] at h2
        have he2 : e = k := by simpa using h2
        rw [he2, ← h3]
        exact h1
      · rw [if_neg h3] at h2
        exact con_mem.mpr (ok.near.trs i hi j (con_mem.mp h1) e (con_mem.mp h2))
theorem spCut_bits {s : Sp3} (ok : s.ok) {k : Nat} (hk : k < s.n) : bitsL (spCut s k).near = (List.range s.n).map fun i => if i = k then 2 ^ k else (bitsL s.near).getD i 0 := by
  have h1 := (spCut_ok ok hk).near.len
  rw [bitsL_range (n := s.n) h1]
  refine List.map_congr_left fun i hi => ?_
  have hi := List.mem_range.mp hi
  show bitsN (row (rowsF s.n _) i) = _
  rw [row_rowsF hi, bitsL_at (by rw [ok.near.len]; exact hi)]
  refine Nat.eq_of_testBit_eq fun j => ?_
  rw [bits_test fil_nd, fil_con]
  by_cases h : i = k
  · rw [if_pos h, if_pos h, Nat.testBit_two_pow]
    cases a : j == k with
    | true =>
      have : j = k := by simpa using a
      subst this
      simp [hk]
    | false =>
      have : j ≠ k := by simpa using a
      rw [Bool.and_false, decide_eq_false (fun z => this z.symm)]
  · rw [if_neg h, if_neg h, bits_test (row_nd ok hi)]
    cases a : (row s.near i).contains j <;> simp
    exact con_lt ok hi a
def sk (k i : Nat) : Nat := if i < k then i else i + 1
theorem sk_lt {k i n : Nat} (hk : k < n) (hi : i < n - 1) : sk k i < n := by
  unfold sk
  split <;> omega
def spRem (s : Sp3) (k : Nat) : Sp3 := ⟨s.n - 1, s.order.take k ++ s.order.drop (k + 1), rowsF (s.n - 1) fun i j => (row s.near (sk k i)).contains (sk k j)⟩
theorem rem_len {s : Sp3} (ok : s.ok) {k : Nat} (hk : k < s.n) : (s.order.take k ++ s.order.drop (k + 1)).length = s.n - 1 := by
  rw [List.length_append, List.length_take, List.length_drop, ok.len]
  omega
theorem spRem_ok {s : Sp3} (ok : s.ok) {k : Nat} (hk : k < s.n) (h2 : 2 ≤ s.n) : (spRem s k).ok := by
  refine ⟨rem_len ok hk, ?_, fun x hx => ok.nm x ?_, near_rowsF (fun i hi => ?_) (fun i j e hi hj he h1 h2 => ?_), by show 0 < s.n - 1; omega, by have := ok.le; show s.n - 1 ≤ 256; omega⟩
  · have e : s.order = s.order.take k ++ s.order.drop k := (List.take_append_drop k _).symm
    have := ok.nd
    rw [e] at this
    exact this.sublist (List.Sublist.append (List.Sublist.refl _) (List.drop_sublist_drop_left _ (by omega)))
  · rcases List.mem_append.mp hx with h | h
    · exact List.mem_of_mem_take h
    · exact List.mem_of_mem_drop h
  · exact con_mem.mpr (ok.near.rfl_ _ (sk_lt hk hi))
  · exact con_mem.mpr (ok.near.trs _ (sk_lt hk hi) _ (con_mem.mp h1) _ (con_mem.mp h2))
theorem spRem_bits {s : Sp3} (ok : s.ok) {k : Nat} (hk : k < s.n) (h2 : 2 ≤ s.n) : bitsL (spRem s k).near = (let l := (bitsL s.near).map fun b => (b &&& (2 ^ k - 1)) ||| (b / 2 ^ (k + 1)) * 2 ^ k; l.take k ++ l.drop (k + 1)) := by
  have h1 := (spRem_ok ok hk h2).near.len
  rw [bitsL_range (n := s.n - 1) h1, bits_near ok, List.map_map]
  dsimp only
  apply List.ext_getElem?
  intro i
  have hlen : (((List.range s.n).map ((fun b => (b &&& (2 ^ k - 1)) ||| (b / 2 ^ (k + 1)) * 2 ^ k) ∘ fun i => bitsN (row s.near i))).take k).length = k := by
    rw [List.length_take, List.length_map, List.length_range]
    omega
  by_cases hi : i < s.n - 1
  · have e1 : ((List.range (s.n - 1)).map fun i => bitsN (row (spRem s k).near i))[i]? = some (bitsN (row (spRem s k).near i)) := by
      rw [List.getElem?_map, List.getElem?_range hi]
      rfl
    have e2 : ((((List.range s.n).map ((fun b => (b &&& (2 ^ k - 1)) ||| (b / 2 ^ (k + 1)) * 2 ^ k) ∘ fun i => bitsN (row s.near i))).take k) ++ ((List.range s.n).map ((fun b => (b &&& (2 ^ k - 1)) ||| (b / 2 ^ (k + 1)) * 2 ^ k) ∘ fun i => bitsN (row s.near i))).drop (k + 1))[i]? = some ((fun b => (b &&& (2 ^ k - 1)) ||| (b / 2 ^ (k + 1)) * 2 ^ k) (bitsN (row s.near (sk k i)))) := by
      unfold sk
      by_cases h : i < k
      · rw [List.getElem?_append_left (by rw [hlen]; exact h), List.getElem?_take_of_lt h, List.getElem?_map, List.getElem?_range (by omega), if_pos h]
        rfl
      · rw [List.getElem?_append_right (by rw [hlen]; omega), hlen, List.getElem?_drop, List.getElem?_map, List.getElem?_range (by omega), if_neg h, show k + 1 + (i - k) = i + 1 by omega]
        rfl
    rw [e1, e2]
    congr 1
    show bitsN (row (rowsF (s.n - 1) _) i) = _
    have hs := sk_lt hk hi
    rw [row_rowsF hi]
    refine Nat.eq_of_testBit_eq fun j => ?_
    rw [bits_test fil_nd, fil_con, Nat.testBit_or, Nat.testBit_and, Nat.testBit_two_pow_sub_one, Nat.testBit_mul_two_pow, Nat.testBit_div_two_pow, bits_test (row_nd ok hs), bits_test (row_nd ok hs)]
    by_cases h : j < k
    · rw [show sk k j = j from if_pos h, decide_eq_true h, decide_eq_false (show ¬j ≥ k by omega), Bool.false_and, Bool.or_false, Bool.and_true, decide_eq_true (show j < s.n - 1 by omega), Bool.true_and]
    · rw [show sk k j = j + 1 from if_neg h, decide_eq_false h, Bool.and_false, Bool.false_or, decide_eq_true (show j ≥ k by omega), Bool.true_and, show j - k + (k + 1) = j + 1 by omega]
      cases a : (row s.near (sk k i)).contains (j + 1) with
      | false => rw [Bool.and_false]
      | true =>
        have := con_lt ok hs a
        rw [decide_eq_true (show j < s.n - 1 by omega), Bool.true_and]
  · rw [List.getElem?_eq_none (by rw [List.length_map, List.length_range]; omega), List.getElem?_eq_none (by
      rw [List.length_append, hlen, List.length_drop, List.length_map, List.length_range]
      omega)]
end Law

namespace Law
open PySem L2 Mir Pl
abbrev rwP (r : List (List Nat)) : P := .lst (txts r)
def bkP (order : List (List Nat)) (rows : List (List (List Nat))) : P := .tup [.lst (txts order), .dct (txts order) (rows.map rwP)]
def rw_ (rows : List (List (List Nat))) (i : Nat) : List (List Nat) := rows.getD i []
structure Rel (s : Sp3) (rows : List (List (List Nat))) : Prop where
  len : rows.length = s.n
  nd : ∀ i, i < s.n → (rw_ rows i).Nodup
  sub : ∀ i, i < s.n → ∀ x ∈ rw_ rows i, x ∈ s.order
  mem : ∀ i j, i < s.n → j < s.n → (s.order.getD j [] ∈ rw_ rows i ↔ j ∈ row s.near i)
theorem nd_sub_len {l m : List (List Nat)} (h : l.Nodup) (hm : m.Nodup) (hs : ∀ x ∈ l, x ∈ m) : l.length ≤ m.length := by
  have p : l.Perm (m.filter fun x => l.contains x) := by
    refine (List.perm_ext_iff_of_nodup h (hm.sublist List.filter_sublist)).mpr fun x => ?_
    rw [List.mem_filter, List.contains_iff_mem]
    exact ⟨fun z => ⟨hs x z, z⟩, fun z => z.2⟩
  rw [p.length_eq]
  exact List.length_filter_le _ _
theorem Rel.lim {s : Sp3} {rows : List (List (List Nat))} (r : Rel s rows) (ok : s.ok) {i : Nat} (hi : i < s.n) : (rw_ rows i).length ≤ s.n := by
  have := nd_sub_len (r.nd i hi) ok.nd (r.sub i hi)
  rwa [ok.len] at this
theorem ord_range (l : List (List Nat)) {n : Nat} (h : l.length = n) : l = (List.range n).map fun i => l.getD i [] := by
  apply List.ext_getElem?
  intro i
  rw [List.getElem?_map]
  by_cases hi : i < n
  · rw [List.getElem?_range hi]
    show l[i]? = some (l.getD i [])
    rw [List.getD_eq_getElem?_getD, List.getElem?_eq_getElem (by omega)]
    rfl
  · rw [List.getElem?_eq_none (by omega), List.getElem?_eq_none (by rw [List.length_range]; omega)]
    rfl
theorem txts_range (l : List (List Nat)) {n : Nat} (h : l.length = n) : txts l = (List.range n).map fun i => P.str (l.getD i []) := by
  have := congrArg txts (ord_range l h)
  rw [this]
  unfold txts
  rw [List.map_map]
  rfl
theorem getD_injS {l : List (List Nat)} (nd : l.Nodup) {i j : Nat} (hi : i < l.length) (hj : j < l.length) (e : l.getD i [] = l.getD j []) : i = j := by
  have a := pIdx_at nd hi
  have b := pIdx_at nd hj
  rw [e, b] at a
  injection a with a
  injection a with a
  omega
theorem fil_row {n : Nat} {l : List Nat} (h : l.Pairwise (· < ·)) (hl : ∀ e ∈ l, e < n) : (List.range n).filter (fun j => l.contains j) = l := by
  have nd : l.Nodup := h.imp fun z => Nat.ne_of_lt z
  have e : (List.range n).filter (fun j => l.contains j) = mem_ n (bitsN l) := List.filter_congr fun j _ => (bits_test nd j).symm
  exact e.trans (mem_bits h hl)
theorem filt {s : Sp3} {rows : List (List (List Nat))} (ok : s.ok) (r : Rel s rows) {i : Nat} (hi : i < s.n) : s.order.filter (fun x => (rw_ rows i).contains x) = pick s.order (row s.near i) := by
  have e : s.order.filter (fun x => (rw_ rows i).contains x) = (((List.range s.n).map fun j => s.order.getD j []).filter fun x => (rw_ rows i).contains x) := congrArg (List.filter _) (ord_range s.order ok.len)
  rw [e, List.filter_map]
  unfold pick
  congr 1
  rw [show (List.range s.n).filter (((fun x => (rw_ rows i).contains x) ∘ fun j => s.order.getD j [])) = (List.range s.n).filter (fun j => (row s.near i).contains j) from List.filter_congr fun j hj => by
    rw [Bool.eq_iff_iff]
    show (rw_ rows i).contains (s.order.getD j []) = true ↔ _
    rw [List.contains_iff_mem, List.contains_iff_mem]
    exact r.mem i j hi (List.mem_range.mp hj)]
  exact fil_row (ok.near.srt i hi) (ok.near.lt i hi)
theorem dget_rows {A : Type} {f : A → P} {d : A} : ∀ {order : List (List Nat)} {vs : List A} {i : Nat}, order.Nodup → i < order.length → order.length = vs.length → dGet (.str (order.getD i [])) (txts order) (vs.map f) = some (f (vs.getD i d))
  | [], _, i, _, h, _ => absurd h (Nat.not_lt_zero _)
  | a :: order, [], i, _, _, hl => by simp at hl
  | a :: order, b :: vs, 0, nd, h, hl => by
    show (if keq (.str a) (.str a) then some (f b) else _) = some (f b)
    rw [if_pos (show keq (.str a) (.str a) = true from by show (a == a) = true; exact beq_self_eq_true a)]
  | a :: order, b :: vs, i + 1, nd, hi, hl => by
    have nd' := List.nodup_cons.mp nd
    have hi' : i < order.length := by simpa using hi
    show (if keq (.str a) (.str (order.getD i [])) then some (f b) else dGet (.str (order.getD i [])) (txts order) (vs.map f)) = some (f (vs.getD i d))
    rw [if_neg ?_]
    · exact dget_rows nd'.2 hi' (by simpa using hl)
    · intro e
      have e : (a == order.getD i []) = true := e
      rw [eq_of_beq e] at nd'
      exact nd'.1 (mem_getD hi')
theorem look_rows {S : Sto} {e : Vl} {order : List (List Nat)} {rows : List (List (List Nat))} (hr : Mir.rd S e = some (.dct (txts order) (rows.map rwP))) (nd : order.Nodup) (hl : rows.length = order.length) {i : Nat} (hi : i < order.length) : dLook S e (.p (.str (order.getD i []))) = some (some (rwP (rw_ rows i))) := by
  unfold dLook
  rw [hr]
  show (kOf (.str (order.getD i []))).map (fun _ => dGet (.str (order.getD i [])) (txts order) (rows.map rwP)) = _
  rw [dget_rows (d := []) nd hi hl.symm]
  rfl
theorem ev_itemKS {o i : ME} {ρ : En} {S S1 S2 : Sto} {e d : Vl} {x : P} (ho : o ρ S = .ok e S1) (hi : i ρ S1 = .ok d S2) (h : dLook S2 e d = some (some x)) : eItemK o i ρ S = .ok (.p x) S2 := by
  unfold eItemK
  rw [ho, bind_ok, hi, bind_ok, h]
theorem ev_putKS {v o i : ME} {ρ : En} {S : Sto} {x y : P} {j : Nat} {ks xs ks2 xs2 : List P} (hv : v ρ S = .ok (.p x) S) (ho : o ρ S = .ok (.c j) S) (hi : i ρ S = .ok (.p y) S) (hS : S[j]? = some (.dct ks xs)) (hk : (kOf y).isSome = true) (hl : ks.length < 100000) (e1 : dPutK y ks = ks2) (e2 : dPutV y x ks xs = xs2) : sPutK v o i ρ S = .ok (.nx ρ) (S.set j (.dct ks2 xs2)) := by
  unfold sPutK
  rw [hv, go_ok, ho, go_ok, hi, go_ok, frz_p, go_ok]
  have : dPutS S (.p y) (.c j) x = some (S.set j (.dct ks2 xs2)) := by
    unfold dPutS
    dsimp only
    rw [hS]
    dsimp only
    rw [if_pos ⟨hk, hl⟩, e1, e2]
  rw [this]
section
variable {s : Sp3} {rows : List (List (List Nat))} (ok : s.ok) (r : Rel s rows)
include ok r
theorem ev_near {S S1 S2 : Sto} {o i : ME} {ρ : En} {e : Vl} {k : Nat} (hk : k < s.n) (ho : o ρ S = .ok e S1) (hi : i ρ S1 = .ok (.p (.str (s.order.getD k []))) S2) (hr : Mir.rd S2 e = some (.dct (txts s.order) (rows.map rwP))) : eItemK o i ρ S = .ok (.p (rwP (rw_ rows k))) S2 :=
  ev_itemKS ho hi (look_rows hr ok.nd (r.len.trans ok.len.symm) (by rw [ok.len]; exact hk))
theorem mates_ok {S : Sto} {ρ ρ0 : En} {ρ1 : List Nat → En} {a b d v : Nat} {k : Nat} (hk : k < s.n) (h1 : ρ[a]? = some (some (.p (.lst (txts s.order))))) (hw : wipeE ρ [v] = ρ0) (hg : ∀ y, ρ0.set v (some (.p (.str y))) = ρ1 y)
    (hv : ∀ y, (ρ1 y)[v]? = some (some (.p (.str y)))) (hb : ∀ y, (ρ1 y)[b]? = some (some (.p (.dct (txts s.order) (rows.map rwP))))) (hd : ∀ y, (ρ1 y)[d]? = some (some (.p (.str (s.order.getD k []))))) :
    eLc (itOf (eVar a)) [v] (gNm v) (tVal (eBin pIn2 (eVar v) (eItemK (eVar b) (eVar d)))) (eVar v) ρ S = .ok (.p (.lst (txts (pick s.order (row s.near k))))) S := by
  have hle := ok.le
  have lo := ok.len
  have := ev_lc (ys := s.order) (en := P.str) (f := P.str) (q := fun x => (rw_ rows k).contains x) (it := itOf (eVar a)) (vs := [v]) (g := gNm v) (t := tVal (eBin pIn2 (eVar v) (eItemK (eVar b) (eVar d)))) (a := eVar v) (ρ := ρ) (ρ0 := ρ0) (ρ1 := ρ1) (S := S) (S1 := S) (ev_itOf (ev_var h1) fr_p rfl) (by omega) hw (fun y _ => ev_gnm (hg y)) (fun y _ => ev_tval (ev_bin (ev_var (hv y)) (ev_near ok r hk (ev_var (hb y)) (ev_var (hd y)) (rd_p _ _)) (rd_p _ _) (rd_p _ _) (pIn2_txts y (rw_ rows k)))) (fun y _ _ => ev_var (hv y))
  rw [this, filt ok r hk]
theorem told_ok (S : Sto) : m__law_told [.p (bkP s.order rows)] S = .ok (.p (.str (textT s.n s.order s.near))) S := by
  have hle := ok.le
  have lo := ok.len
  let E (a3 a4 : Option Vl) : En := [some (.p (bkP s.order rows)), some (.p (.lst (txts s.order))), some (.p (.dct (txts s.order) (rows.map rwP))), a3, a4]
  unfold m__law_told b__law_told
  refine ws_mkFe (ρ := [some (.p (bkP s.order rows)), none, none, none, none]) rfl rfl ?_
  refine ws_seq (ev_asg (ev_var rfl) (ev_gtp (xs := [.lst (txts s.order), .dct (txts s.order) (rows.map rwP)]) rfl rfl (ev_gcn (ev_gnm rfl) (ev_gcn (ev_gnm rfl) ev_gnl)))) ?_
  have rl : ∀ i, i < s.n → (pick s.order (row s.near i)).length ≤ s.n ∧ ∀ y ∈ pick s.order (row s.near i), y.length ≤ 8 := fun i hi => ⟨Spc.pk_len ok hi, fun y hy => (Spc.pk ok hi y hy).len⟩
  have nl : ∀ i, i < s.n → (s.order.getD i []).length ≤ 8 := fun i hi => (Spc.at_ ok hi).len
  have sl := sum_len_le (l := (List.range s.n).map (rowAt s.order s.near)) (c := 2400) fun y hy => by
    obtain ⟨i, hi, rfl⟩ := List.mem_map.mp hy
    exact Spc.row_len ok (List.mem_range.mp hi)
  rw [List.length_map, List.length_range] at sl
  have lc := ev_lcm (ys := List.range s.n) (en := fun i => P.str (s.order.getD i [])) (f := fun i => P.str (rowAt s.order s.near i)) (it := itOf (eVar 1)) (vs := [3]) (g := gNm 3) (a := eBin pAdd (eBin pAdd (eVar 3) (eC (.str [58, 32]))) (eMthT "str" pJoin (eC (.str [32])) (aCons (eLc (itOf (eVar 1)) [4] (gNm 4) (tVal (eBin pIn2 (eVar 4) (eItemK (eVar 2) (eVar 3)))) (eVar 4)) aNil))) (ρ := E none none) (S := S) (S1 := S) (ρ1 := fun i => E (some (.p (.str (s.order.getD i [])))) none) (ev_itOf (ev_var rfl) fr_p (by rw [txts_range s.order ok.len]; rfl)) (by rw [List.length_range]; omega) rfl (fun i _ => ev_gnm rfl) (fun i hi => by
    have hi := List.mem_range.mp hi
    have h1 := rl i hi
    have h2 := nl i hi
    have mt := mates_ok ok r (S := S) (ρ := E (some (.p (.str (s.order.getD i [])))) none) (ρ0 := E (some (.p (.str (s.order.getD i [])))) none) (ρ1 := fun y => E (some (.p (.str (s.order.getD i [])))) (some (.p (.str y)))) (a := 1) (b := 2) (d := 3) (v := 4) hi rfl rfl (fun y => rfl) (fun y => rfl) (fun y => rfl) (fun y => rfl)
    have jl := joinL_len [32] (pick s.order (row s.near i))
    have sl := sum_len_le h1.2
    have e1 : (TL.joinL [32] (pick s.order (row s.near i))).length ≤ 4000 := by
      simp only [List.length_cons, List.length_nil] at jl
      omega
    have jn := pJoin_txts (s := [32]) (l := pick s.order (row s.near i)) (by simp only [List.length_cons, List.length_nil]; omega)
    have := ev_bin (f := pAdd) (ev_bin (f := pAdd) (ev_var (ρ := E (some (.p (.str (s.order.getD i [])))) none) (i := 3) (S := S) rfl) (ev_c (x := .str [58, 32])) (rd_p _ _) (rd_p _ _) (op_addS (by show _ + 2 ≤ _; omega))) (ev_mth (T := "str") (f := pJoin) (ev_c (x := .str [32])) (rd_p _ _) rfl (ev_acons mt ev_anil) (rd_p _ _) (rds_c (rd_p _ _) (rds_nil _)) jn) (rd_p _ _) (rd_p _ _) (op_addS (by rw [List.length_append]; show _ + 2 + _ ≤ _; omega))
    rw [this]
    unfold rowAt rowT
    rw [List.append_assoc])
  have jn := pJoin_txts (s := [10]) (l := (List.range s.n).map (rowAt s.order s.near)) (by rw [List.length_map ((rowAt s.order s.near)), List.length_range]; simp only [List.length_cons, List.length_nil]; omega)
  have e2 : ((List.range s.n).map fun i => P.str (rowAt s.order s.near i)) = txts ((List.range s.n).map (rowAt s.order s.near)) := by
    unfold txts
    rw [List.map_map]
    rfl
  rw [e2] at lc
  refine ws_of (ev_ret (ev_mth (ev_c (x := .str [10])) (rd_p _ _) rfl (ev_acons lc ev_anil) (rd_p _ _) (rds_c (rd_p _ _) (rds_nil _)) jn)) ?_
  rw [endF_p, take_self]
  rfl
end
end Law

namespace Pl
structure Up (n : Nat) (w0 w : List (List Nat)) : Prop where
  good : Good n w
  sub : Sub n w0 w
  in_ : ∀ T : Nat → Nat → Prop, (∀ a b c, T a b → T b c → T a c) → In_ n w0 T → In_ n w T
theorem Up.refl {n : Nat} {w : List (List Nat)} (g : Good n w) : Up n w w := ⟨g, Sub.refl, fun _ _ h => h⟩
theorem Up.trans {n : Nat} {a b c : List (List Nat)} (h : Up n a b) (h' : Up n b c) : Up n a c := ⟨h'.good, h.sub.trans h'.sub, fun T ht z => h'.in_ T ht (h.in_ T ht z)⟩
def uniN (n : Nat) (a b : List Nat) : List Nat := (List.range n).filter fun e => a.contains e || b.contains e
theorem uniN_mem {n e : Nat} {a b : List Nat} (ha : ∀ x ∈ a, x < n) (hb : ∀ x ∈ b, x < n) : e ∈ uniN n a b ↔ e ∈ a ∨ e ∈ b := by
  unfold uniN
  rw [List.mem_filter, List.mem_range, Bool.or_eq_true, List.contains_iff_mem, List.contains_iff_mem]
  exact ⟨fun h => h.2, fun h => ⟨h.elim (ha e) (hb e), h⟩⟩
theorem uniN_srt {n : Nat} {a b : List Nat} : (uniN n a b).Pairwise (· < ·) := List.Pairwise.sublist List.filter_sublist List.pairwise_lt_range
section
variable {n : Nat} {w : List (List Nat)}
theorem up_set (g : Good n w) {k j : Nat} (hk : k < n) (hj : j ∈ row w k) : Up n w (w.set k (uniN n (row w k) (row w j))) ∧ ∀ e ∈ row w j, e ∈ row (w.set k (uniN n (row w k) (row w j))) k := by
  have hl : k < w.length := by rw [g.len]; exact hk
  have hjn := g.lt k hk j hj
  have um : ∀ e, e ∈ uniN n (row w k) (row w j) ↔ e ∈ row w k ∨ e ∈ row w j := fun e => uniN_mem (g.lt k hk) (g.lt j hjn)
  have e0 : row (w.set k (uniN n (row w k) (row w j))) k = uniN n (row w k) (row w j) := row_set_self hl
  have e1 : ∀ i, i ≠ k → row (w.set k (uniN n (row w k) (row w j))) i = row w i := fun i hi => row_set_ne (Ne.symm hi)
  refine ⟨⟨⟨by rw [List.length_set]; exact g.len, fun i hi => ?_, fun i hi e he => ?_, fun i hi => ?_⟩, fun i hi e he => ?_, fun T ht hin i hi e he => ?_⟩, fun e he => ?_⟩
  · by_cases q : i = k
    · subst q; rw [e0, um]; exact .inl (g.rfl_ i hi)
    · rw [e1 i q]; exact g.rfl_ i hi
  · by_cases q : i = k
    · subst q
      rw [e0, um] at he
      exact he.elim (g.lt i hi e) (g.lt j hjn e)
    · rw [e1 i q] at he; exact g.lt i hi e he
  · by_cases q : i = k
    · subst q; rw [e0]; exact uniN_srt.imp fun z => Nat.ne_of_lt z
    · rw [e1 i q]; exact g.nd i hi
  · by_cases q : i = k
    · subst q; rw [e0, um]; exact .inl he
    · rw [e1 i q]; exact he
  · by_cases q : i = k
    · subst q
      rw [e0, um] at he
      exact he.elim (hin i hi e) fun z => ht i j e (hin i hi j hj) (hin j hjn e z)
    · rw [e1 i q] at he; exact hin i hi e he
  · rw [e0, um]; exact .inr he
structure Stp (n k : Nat) (ws : List (List Nat)) (i : Nat) (w : List (List Nat)) : Prop where
  up : Up n ws w
  oth : ∀ k', k' ≠ k → row w k' = row ws k'
  srt : 0 < i → (row w k).Pairwise (· < ·)
  has : ∀ i' j, i' < i → (row ws k)[i']? = some j → ∀ e ∈ row ws j, e ∈ row w k
theorem stp_0 (g : Good n w) {k : Nat} : Stp n k w 0 w := ⟨Up.refl g, fun _ _ => rfl, fun h => absurd h (Nat.lt_irrefl 0), fun i' j h => absurd h (Nat.not_lt_zero _)⟩
theorem stp_s {ws : List (List Nat)} {k i j : Nat} (h : Stp n k ws i w) (hk : k < n) (hj : (row ws k)[i]? = some j) : Stp n k ws (i + 1) (w.set k (uniN n (row w k) (row w j))) := by
  have hjs : j ∈ row ws k := List.mem_of_getElem? hj
  have hjw := h.up.sub k hk j hjs
  obtain ⟨u1, u2⟩ := up_set h.up.good hk hjw
  have hjn := h.up.good.lt k hk j hjw
  have hl : k < w.length := by rw [h.up.good.len]; exact hk
  refine ⟨h.up.trans u1, fun k' hk' => by rw [row_set_ne (Ne.symm hk')]; exact h.oth k' hk', fun _ => by rw [row_set_self hl]; exact uniN_srt, fun i' j' hi' hj' e he => ?_⟩
  by_cases q : i' < i
  · exact u1.sub k hk e (h.has i' j' q hj' e he)
  · have : i' = i := by omega
    subst this
    rw [hj] at hj'
    cases hj'
    exact u2 e (h.up.sub j hjn e he)
structure Rnd (n : Nat) (w0 : List (List Nat)) (k : Nat) (w : List (List Nat)) : Prop where
  up : Up n w0 w
  srt : ∀ k', k' < k → (row w k').Pairwise (· < ·)
  has : ∀ k', k' < k → ∀ j ∈ row w0 k', ∀ e ∈ row w0 j, e ∈ row w k'
theorem rnd_0 (g : Good n w) : Rnd n w 0 w := ⟨Up.refl g, fun _ h => absurd h (Nat.not_lt_zero _), fun _ h => absurd h (Nat.not_lt_zero _)⟩
theorem rnd_s {w0 w2 : List (List Nat)} {k : Nat} (h : Rnd n w0 k w) (hk : k < n) (s : Stp n k w (row w k).length w2) : Rnd n w0 (k + 1) w2 := by
  have g := h.up.good
  refine ⟨h.up.trans s.up, fun k' hk' => ?_, fun k' hk' j hj e he => ?_⟩
  · by_cases q : k' = k
    · subst q; exact s.srt (List.length_pos_of_mem (g.rfl_ k' hk))
    · rw [s.oth k' q]; exact h.srt k' (by omega)
  · by_cases q : k' = k
    · subst q
      have hj' := h.up.sub k' hk j hj
      have hjn := g.lt k' hk j hj'
      obtain ⟨i', hi', hi2⟩ := List.getElem_of_mem hj'
      exact s.has i' j hi' (by rw [List.getElem?_eq_getElem hi', hi2]) e (h.up.sub j hjn e he)
    · rw [s.oth k' q]; exact h.has k' (by omega) j hj e he
def relB (n : Nat) (rows : List (List Nat)) (a b : Nat) : Bool := decide (a < n) && (row rows a).contains b
structure Cl (n : Nat) (rows : List (List Nat)) (t : Nat) (w : List (List Nat)) : Prop where
  up : Up n rows w
  srt : 0 < t → ∀ i, i < n → (row w i).Pairwise (· < ·)
  rch : ∀ i, i < n → ∀ m, B (relB n rows) n t i m = true → m ∈ row w i
theorem relB_mem {rows : List (List Nat)} {a b : Nat} : relB n rows a b = true ↔ a < n ∧ b ∈ row rows a := by
  unfold relB
  rw [Bool.and_eq_true, decide_eq_true_eq, List.contains_iff_mem]
theorem cl_0 (g : Good n w) : Cl n w 0 w := ⟨Up.refl g, fun h => absurd h (Nat.lt_irrefl 0), fun i hi m hb => by
  have hb : (i == m) = true := hb
  rw [beq_iff_eq] at hb
  rw [← hb]; exact g.rfl_ i hi⟩
theorem cl_s {rows w2 : List (List Nat)} {t : Nat} (c : Cl n rows t w) (r : Rnd n w n w2) : Cl n rows (t + 1) w2 := by
  refine ⟨c.up.trans r.up, fun _ i hi => r.srt i hi, fun i hi m hb => ?_⟩
  unfold B at hb
  rw [List.any_eq_true] at hb
  obtain ⟨a, ha, hab⟩ := hb
  rw [Bool.and_eq_true] at hab
  obtain ⟨han, ham⟩ := relB_mem.mp hab.2
  exact r.has i hi a (c.rch i hi a hab.1) m (c.up.sub a han m ham)
theorem cl_end {rows : List (List Nat)} (g : Good n rows) (h0 : 0 < n) (c : Cl n rows n w) : Near n w := by
  have hr : ∀ a, a < n → relB n rows a a = true := fun a ha => relB_mem.mpr ⟨ha, g.rfl_ a ha⟩
  have hl : ∀ a b, relB n rows a b = true → b < n := fun a b h => by
    obtain ⟨h1, h2⟩ := relB_mem.mp h
    exact g.lt a h1 b h2
  have ht : ∀ a b c : Nat, (a < n → ∃ t, B (relB n rows) n t a b = true) → (b < n → ∃ t, B (relB n rows) n t b c = true) → (a < n → ∃ t, B (relB n rows) n t a c = true) := fun a b c h1 h2 ha => by
    obtain ⟨s, hs⟩ := h1 ha
    have hb := B_lt hl ha s hs
    obtain ⟨t, ht⟩ := h2 hb
    exact ⟨s + t, B_trans hl hb s t hs ht⟩
  have i2 := c.up.in_ (fun a b => a < n → ∃ t, B (relB n rows) n t a b = true) ht fun i hi e he _ => by
    refine ⟨1, ?_⟩
    unfold B
    rw [List.any_eq_true]
    refine ⟨i, List.mem_range.mpr hi, ?_⟩
    rw [show B (relB n rows) n 0 i i = true by show (i == i) = true; simp, relB_mem.mpr ⟨hi, he⟩]
    rfl
  have g2 := c.up.good
  refine ⟨g2.len, c.srt h0, g2.lt, g2.rfl_, fun i hi j hj e he => ?_⟩
  have hjn := g2.lt i hi j hj
  have hen := g2.lt j hjn e he
  obtain ⟨s, hs⟩ := i2 i hi j hj hi
  obtain ⟨t, ht'⟩ := i2 j hjn e he hjn
  exact c.rch i hi e (B_all hr hl hi (s + t) e hen (B_trans hl hjn s t hs ht'))
end
end Pl
namespace Mir
open PySem L2 Pl
theorem ev_lcCm {A : Type} {it : MI} {vs : List Nat} {g : MG} {ys : List A} {en f : A → P} {ρ ρ0 : En} {ρ1 : A → En} {a : ME} {S S1 : Sto} (hi : it ρ S = .ok (ys.map en) S1) (hl : ys.length ≤ 100000) (hw : wipeE ρ vs = ρ0)
    (hg : ∀ y, y ∈ ys → g (.p (en y)) ρ0 S1 = .ok (ρ1 y) S1) (he : ∀ y, y ∈ ys → a (ρ1 y) S1 = .ok (.p (f y)) S1) : eLcC it vs g tsYes a ρ S = .ok (.c S1.length) (S1 ++ [.lst (ys.map f)]) := by
  subst hw
  unfold eLcC
  have e := lcGo_gen (t := tsYes) en (fun _ => true) f ys fun y hy => ⟨ρ1 y, hg y hy, rfl, fun _ => he y hy⟩
  rw [hi, bind_ok, if_pos (by rw [List.length_map]; exact hl), e, bind_ok, List.filter_eq_self.mpr fun _ _ => rfl]
theorem ev_lcCq {A : Type} {it : MI} {vs : List Nat} {g : MG} {ys : List A} {en f : A → P} {q : A → Bool} {ρ ρ0 : En} {ρ1 : A → En} {t : MT} {a : ME} {S S1 : Sto} (hi : it ρ S = .ok (ys.map en) S1) (hl : ys.length ≤ 100000) (hw : wipeE ρ vs = ρ0)
    (hg : ∀ y, y ∈ ys → g (.p (en y)) ρ0 S1 = .ok (ρ1 y) S1) (ht : ∀ y, y ∈ ys → t (ρ1 y) S1 = .ok (q y) S1) (he : ∀ y, y ∈ ys → q y = true → a (ρ1 y) S1 = .ok (.p (f y)) S1) : eLcC it vs g t a ρ S = .ok (.c S1.length) (S1 ++ [.lst ((ys.filter q).map f)]) := by
  subst hw
  unfold eLcC
  have e := lcGo_gen (t := t) en q f ys fun y hy => ⟨ρ1 y, hg y hy, ht y hy, he y hy⟩
  rw [hi, bind_ok, if_pos (by rw [List.length_map]; exact hl), e, bind_ok]
theorem pSrtSet_uni {n : Nat} {a b : List Nat} (ha : ∀ x ∈ a, x < n) (hb : ∀ x ∈ b, x < n) (h : a.length + b.length < 64) : pSrtSet [.lst (nums (a ++ b))] = some (.lst (nums (uniN n a b))) := by
  show ((intsOf (nums (a ++ b))).bind fun ns => if ns.length < 64 then some (P.lst ((srtD ns).map P.int)) else none) = _
  rw [nums_map, intsOf_map]
  show (if ((a ++ b).map fun (e : Nat) => (e : Int)).length < 64 then _ else _) = _
  rw [if_pos (by rw [List.length_map, List.length_append]; exact h), nums_map]
  congr 2
  refine congrArg (List.map P.int) (asc_unique (srtD_asc _) ?_ fun k => ?_)
  · rw [List.pairwise_map]
    exact uniN_srt.imp fun z => by omega
  · rw [srtD_mem, List.mem_map, List.mem_map]
    constructor
    · rintro ⟨e, he, rfl⟩
      exact ⟨e, (uniN_mem ha hb).mpr (List.mem_append.mp he), rfl⟩
    · rintro ⟨e, he, rfl⟩
      exact ⟨e, List.mem_append.mpr ((uniN_mem ha hb).mp he), rfl⟩
end Mir
namespace Law
open PySem L2 Mir Pl
abbrev rwI (w : List (List Nat)) : List P := w.map fun l => P.lst (nums l)
theorem rwI_at {w : List (List Nat)} {k : Nat} (h : k < w.length) : atI (rwI w) (k : Int) = some (.lst (nums (row w k))) := atI_near h
theorem grown_ok {n : Nat} {rows : List (List Nat)} (g : Good n rows) (h0 : 0 < n) (hn : n ≤ 31) {S : Sto} {c : Nat} (hc : S[c]? = some (.lst (rwI rows))) : ∃ w, Near n w ∧ m__law_grown [.c c] S = .ok (.p (nearP w)) (S.set c (.fz (.lst (rwI rows)))) := by
  have hcl := (List.getElem?_eq_some_iff.mp hc).1
  let F : Sto := S.set c (.fz (.lst (rwI rows)))
  have fl : F.length = S.length := List.length_set
  let E (a2 a3 a5 : Option Vl) : En := [some (.c c), some (.c S.length), a2, a3, none, a5]
  have cD : ∀ w : List (List Nat), (F ++ [Cell.lst (rwI w)])[S.length]? = some (.lst (rwI w)) := fun w => by rw [← fl]; simp
  have cF : ∀ w : List (List Nat), (F ++ [Cell.lst (rwI w)])[c]? = some (.fz (.lst (rwI rows))) := fun w => by
    rw [List.getElem?_append_left (by rw [fl]; exact hcl)]
    exact List.getElem?_set_self hcl
  have rdF : ∀ w : List (List Nat), Mir.rd (F ++ [Cell.lst (rwI w)]) (.c c) = some (.lst (rwI rows)) := fun w => by
    unfold Mir.rd
    dsimp only
    rw [cF w]
  have ln : ∀ {w : List (List Nat)} {ρ : En}, ρ[0]? = some (some (.c c)) → eCall pLen (aCons (eVar 0) aNil) ρ (F ++ [Cell.lst (rwI w)]) = .ok (.p (.int (n : Int))) (F ++ [Cell.lst (rwI w)]) := fun {w ρ} h => ev_call (ev_acons (ev_var h) ev_anil) (rds_c (rdF w) (rds_nil _)) (by rw [op_lenLm, g.len])
  have it : ∀ {w : List (List Nat)} {ρ : En} {i k : Nat}, w.length = n → k < n → ρ[1]? = some (some (.c S.length)) → ρ[i]? = some (some (.p (.int (k : Int)))) → eItem (eVar 1) (eVar i) ρ (F ++ [Cell.lst (rwI w)]) = .ok (.p (.lst (nums (row w k)))) (F ++ [Cell.lst (rwI w)]) := fun {w ρ i k} hw hk h1 hi => ev_item (ev_var h1) (ev_var hi) (ixv_l (cD w) (rwI_at (by omega)))
  have body : WS (b__law_grown [some (.c c), none, none, none, none, none] S) fun fl T => ∃ w, Near n w ∧ fl = .rt (.c S.length) ∧ T = F ++ [Cell.lst (rwI w)] := by
    unfold b__law_grown
    have lc := ev_lcCm (it := itOf (eVar 0)) (vs := [4]) (g := gNm 4) (a := eCall pList (aCons (eVar 4) aNil)) (ys := rows) (en := fun l => P.lst (nums l)) (f := fun l => P.lst (nums l)) (ρ := [some (.c c), none, none, none, none, none]) (ρ0 := [some (.c c), none, none, none, none, none]) (ρ1 := fun l => [some (.c c), none, none, none, some (.p (.lst (nums l))), none]) (S := S) (S1 := F) (ev_itOf (ev_var rfl) (show frz (.c c) S = .ok (.lst (rwI rows)) F from by
      show frzN 3 (.c c) S = _
      unfold frzN
      dsimp only
      rw [hc]) rfl) (by rw [g.len]; omega) rfl (fun l _ => ev_gnm rfl) (fun l _ => ev_call (ev_acons (ev_var rfl) ev_anil) (rds_c (rd_p _ _) (rds_nil _)) rfl)
    rw [fl] at lc
    refine ws_seq (ev_asg lc (ev_gnm rfl)) ?_
    refine ws_seqW (ws_mono (ws_rng (n := n) (Q := fun fl T => ∃ w a2 a3 a5, fl = .nx (E a2 a3 a5) ∧ T = F ++ [Cell.lst (rwI w)] ∧ Cl n rows n w) (fun t ρ T => ∃ w a2 a3 a5, ρ = E a2 a3 a5 ∧ T = F ++ [Cell.lst (rwI w)] ∧ Cl n rows t w) (ev_range1 (ln rfl) (by omega)) ⟨rows, none, none, none, rfl, rfl, cl_0 g⟩ ?_ ?_) ?_)
    · rintro t ρ T ht ⟨w0, a2, a3, a5, rfl, rfl, hcl0⟩
      refine ⟨_, _, ev_gnm rfl, ?_⟩
      refine ws_mono (ws_rng (n := n) (Q := fun fl T => ∃ w a2 a3 a5, fl = .nx (E a2 a3 a5) ∧ T = F ++ [Cell.lst (rwI w)] ∧ Rnd n w0 n w) (fun k ρ T => ∃ w a2 a3 a5, ρ = E a2 a3 a5 ∧ T = F ++ [Cell.lst (rwI w)] ∧ Rnd n w0 k w) (ev_range1 (ln rfl) (by omega)) ⟨w0, _, a3, a5, rfl, rfl, rnd_0 hcl0.up.good⟩ ?_ ?_) ?_
      · rintro k ρ T hk ⟨w, b2, b3, b5, rfl, rfl, hr⟩
        have gw := hr.up.good
        refine ⟨_, _, ev_gnm rfl, ?_⟩
        refine ws_mono (ws_forM (us := row w k) (en := fun (j : Nat) => P.int (j : Int)) (Q := fun fl T => ∃ w' d5, fl = .nx (E b2 (some (.p (.int (k : Int)))) d5) ∧ T = F ++ [Cell.lst (rwI w')] ∧ Stp n k w (row w k).length w') (fun i ρ T => ∃ w' d5, ρ = E b2 (some (.p (.int (k : Int)))) d5 ∧ T = F ++ [Cell.lst (rwI w')] ∧ Stp n k w i w') (ev_itOf (ev_call (ev_acons (it gw.len hk rfl rfl) ev_anil) (rds_c (rd_p _ _) (rds_nil _)) rfl) fr_p rfl) ⟨w, b5, rfl, rfl, stp_0 gw⟩ ?_ ?_) ?_
        · rintro i j ρ T hj ⟨w', d5, rfl, rfl, hs⟩
          have g' := hs.up.good
          have hjk : j ∈ row w' k := hs.up.sub k hk j (List.mem_of_getElem? hj)
          have hjn := g'.lt k hk j hjk
          have l1 := g'.rlen hk
          have l2 := g'.rlen hjn
          refine ⟨_, _, ev_gnm rfl, ?_⟩
          have ad : pAdd (.lst (nums (row w' k))) (.lst (nums (row w' j))) = some (.lst (nums (row w' k ++ row w' j))) := op_addLm (by omega)
          have v := ev_call (f := pSrtSet) (ev_acons (ev_bin (f := pAdd) (it (ρ := E b2 (some (.p (.int (k : Int)))) (some (.p (.int (j : Int))))) (i := 3) g'.len hk rfl rfl) (it (i := 5) g'.len hjn rfl rfl) (rd_p _ _) (rd_p _ _) ad) ev_anil) (rds_c (rd_p _ _) (rds_nil _)) (pSrtSet_uni (n := n) (g'.lt k hk) (g'.lt j hjn) (by omega))
          have sv := setV_lst (x := .lst (nums (uniN n (row w' k) (row w' j)))) (j := (k : Int)) (n := k) (cD w') (ixN_nat (by rw [List.length_map, g'.len]; exact hk))
          have e1 : (F ++ [Cell.lst (rwI w')]).set S.length (.lst ((rwI w').set k (.lst (nums (uniN n (row w' k) (row w' j)))))) = F ++ [Cell.lst (rwI (w'.set k (uniN n (row w' k) (row w' j))))] := by
            rw [← fl, set_lastD, rwI, rwI, List.map_set]
          rw [e1] at sv
          exact ws_of (ev_asg v (ev_gsub (ρ' := []) (ev_var rfl) (ev_var rfl) sv)) ⟨_, .inl rfl, _, _, rfl, rfl, stp_s hs hk hj⟩
        · rintro ρ T ⟨w', d5, rfl, rfl, hs⟩
          exact ⟨w', d5, rfl, rfl, hs⟩
        · rintro fl T ⟨w', d5, rfl, rfl, hs⟩
          exact ⟨_, .inl rfl, w', _, _, _, rfl, rfl, rnd_s hr hk hs⟩
      · rintro ρ T ⟨w, b2, b3, b5, rfl, rfl, hr⟩
        exact ⟨w, b2, b3, b5, rfl, rfl, hr⟩
      · rintro fl T ⟨w, b2, b3, b5, rfl, rfl, hr⟩
        exact ⟨_, .inl rfl, w, _, _, _, rfl, rfl, cl_s hcl0 hr⟩
    · rintro ρ T ⟨w, a2, a3, a5, rfl, rfl, h⟩
      exact ⟨w, a2, a3, a5, rfl, rfl, h⟩
    · rintro fl T ⟨w, a2, a3, a5, rfl, rfl, h⟩
      exact ⟨_, rfl, ws_of (ev_ret (ev_var rfl)) ⟨w, cl_end g h0 h, rfl, rfl⟩⟩
  obtain ⟨f, T, e, w, nw, rfl, rfl⟩ := body
  refine ⟨w, nw, ?_⟩
  unfold m__law_grown
  refine ev_mkF rfl rfl e ?_
  show retV S.length (.c S.length) (F ++ [Cell.lst (rwI w)]) = _
  unfold retV
  dsimp only
  rw [if_neg (Nat.lt_irrefl _)]
  have : frz (.c S.length) (F ++ [Cell.lst (rwI w)]) = .ok (.lst (rwI w)) ((F ++ [Cell.lst (rwI w)]).set S.length (.fz (.lst (rwI w)))) := by
    show frzN 3 (.c S.length) _ = _
    unfold frzN
    dsimp only
    rw [cD w]
  rw [this, bind_ok, ← fl, set_lastD, take_app]
  rfl
end Law

namespace Mir
open PySem L2 Pl
theorem lcx_t {g : MG} {t : MT} {a : ME} {x : P} {xs : List P} {ρ ρ1 : En} {S S1 : Sto} (hg : g (.p x) ρ S = .ok ρ1 S) (ht : t ρ1 S = .ok true S1) {y : P} {S2 : Sto} (ha : a ρ1 S1 = .ok (.p y) S2) {ys : List P} {S3 : Sto} (hr : lcGo g t a ρ xs S2 = .ok ys S3) : lcGo g t a ρ (x :: xs) S = .ok (y :: ys) S3 := by
  rw [lcGo, hg, nox_ok, bind_ok, ht, nox_ok, bind_ok]
  dsimp only
  rw [ha, nox_ok, bind_ok, frz_p, bind_ok, hr, bind_ok]
theorem lcx_f {g : MG} {t : MT} {a : ME} {x : P} {xs : List P} {ρ ρ1 : En} {S S1 : Sto} (hg : g (.p x) ρ S = .ok ρ1 S) (ht : t ρ1 S = .ok false S1) {o : Res (List P)} (hr : lcGo g t a ρ xs S1 = o) : lcGo g t a ρ (x :: xs) S = o := by
  rw [lcGo, hg, nox_ok, bind_ok, ht, nox_ok, bind_ok]
  exact hr
end Mir
namespace Law
open PySem L2 Mir Pl
structure Gx (k : Nat) (S S' : Sto) : Prop where
  len : S.length ≤ S'.length
  mug : Mug S' k
  oth : ∀ j, j ≠ k → j < S.length → S'[j]? = S[j]?
theorem Gx.trans {k : Nat} {S S1 S2 : Sto} (h : Gx k S S1) (h' : Gx k S1 S2) : Gx k S S2 := ⟨Nat.le_trans h.len h'.len, h'.mug, fun j hj hl => (h'.oth j hj (Nat.lt_of_lt_of_le hl h.len)).trans (h.oth j hj hl)⟩
theorem Mx.gx {k : Nat} {S S' : Sto} (h : Mx k S S') : Gx k S S' := ⟨by rw [h.len]; exact Nat.le_refl _, h.mug, fun j hj _ => h.oth j hj⟩
theorem mug_lt {S : Sto} {k : Nat} (h : Mug S k) : k < S.length := by
  obtain ⟨a, b, e, _⟩ := h
  exact (List.getElem?_eq_some_iff.mp e).1
theorem mug_app {S : Sto} {k : Nat} (h : Mug S k) (T : List Cell) : Mug (S ++ T) k := by
  have hl := mug_lt h
  obtain ⟨a, b, e, q⟩ := h
  exact ⟨a, b, by rw [List.getElem?_append_left hl]; exact e, q⟩
theorem gx_app {S : Sto} {k : Nat} (h : Mug S k) (T : List Cell) : Gx k S (S ++ T) := ⟨by simp, mug_app h T, fun j _ hl => List.getElem?_append_left hl⟩
theorem Gx.set {S T : Sto} {k j : Nat} (h : Gx k S T) (hj : S.length ≤ j) (hk : k < S.length) (c : Cell) : Gx k S (T.set j c) := ⟨by rw [List.length_set]; exact h.len, by
  obtain ⟨a, b, e, q⟩ := h.mug
  exact ⟨a, b, by rw [List.getElem?_set_ne (by omega)]; exact e, q⟩, fun i hi hl => by
  rw [List.getElem?_set_ne (by omega)]
  exact h.oth i hi hl⟩
theorem Gx.cut {S T : Sto} {k : Nat} (h : Gx k S T) (hk : k < S.length) : Mx k S (T.take S.length) := by
  refine ⟨by rw [List.length_take]; have := h.len; omega, ?_, fun j hj => ?_⟩
  · obtain ⟨a, b, e, q⟩ := h.mug
    exact ⟨a, b, by rw [List.getElem?_take_of_lt hk]; exact e, q⟩
  · by_cases hl : j < S.length
    · rw [List.getElem?_take_of_lt hl]; exact h.oth j hj hl
    · rw [List.getElem?_eq_none (by rw [List.length_take]; omega), List.getElem?_eq_none (by omega)]
theorem one_ok {S : Sto} {k : Nat} {xs : List P} (hu : Mug S k) (h0 : xs ≠ []) (hl : xs.length < 1000000) : ∃ r S', r < xs.length ∧ m__law_one [.c k, .p (.lst xs)] S = .ok (.p (xs.getD r .non)) S' ∧ Mx k S S' := by
  have hp : 0 < xs.length := List.length_pos_iff.mpr h0
  obtain ⟨r, S', e, r0, r1, u⟩ := gulp_ok (n := (xs.length : Int)) hu (by omega) (by omega)
  obtain ⟨r, rfl⟩ := Int.eq_ofNat_of_zero_le r0
  have hr : r < xs.length := by omega
  have hx : xs[r]? = some (xs.getD r .non) := by rw [List.getD_eq_getElem?_getD, List.getElem?_eq_getElem hr]; rfl
  refine ⟨r, S', hr, ?_, u⟩
  unfold m__law_one b__law_one
  refine ws_mkFe (ρ := [some (.c k), some (.p (.lst xs))]) rfl rfl (ws_of (ev_ret (ev_item (ev_var rfl) (ev_fn (ev_acons (ev_var rfl) (ev_acons (ev_call (ev_acons (ev_var rfl) ev_anil) (rds_c (rd_p _ _) (rds_nil _)) op_lenL) ev_anil)) e) (ixv_p (atN hx)))) ?_)
  rw [endF_p, take_len u.len]
theorem one_txt {S : Sto} {k : Nat} {l : List (List Nat)} (hu : Mug S k) (h0 : l ≠ []) (hl : l.length < 1000000) : ∃ r S', r < l.length ∧ m__law_one [.c k, .p (.lst (txts l))] S = .ok (.p (.str (l.getD r []))) S' ∧ Mx k S S' := by
  obtain ⟨r, S', hr, e, u⟩ := one_ok (xs := txts l) hu (by unfold txts; simpa using h0) (by unfold txts; rw [List.length_map]; exact hl)
  have hr : r < l.length := by unfold txts at hr; rwa [List.length_map] at hr
  refine ⟨r, S', hr, ?_, u⟩
  rw [e]
  congr 2
  unfold txts
  rw [List.getD_eq_getElem?_getD, List.getElem?_map, List.getElem?_eq_getElem hr, List.getD_eq_getElem?_getD, List.getElem?_eq_getElem hr]
  rfl
theorem one_int {S : Sto} {k : Nat} {l : List Int} (hu : Mug S k) (h0 : l ≠ []) (hl : l.length < 1000000) : ∃ (i : Int) (S' : Sto), m__law_one [.c k, .p (.lst (l.map P.int))] S = .ok (.p (.int i)) S' ∧ Mx k S S' := by
  obtain ⟨r, S', hr, e, u⟩ := one_ok (xs := l.map P.int) hu (by simpa using h0) (by rw [List.length_map]; exact hl)
  have hr : r < l.length := by rwa [List.length_map] at hr
  refine ⟨l[r], S', ?_, u⟩
  rw [e]
  congr 2
  rw [List.getD_eq_getElem?_getD, List.getElem?_map, List.getElem?_eq_getElem hr]
  rfl
abbrev enN (km n : Nat) (sh : Int) (c k : Nat) (a5 : Option Vl) : En := [some (.c km), some (.p (.int (n : Int))), some (.p (.int sh)), some (.c c), some (.p (.int (k : Int))), a5]
theorem row_drawn {km n k c : Nat} {sh : Int} : ∀ (js : List Nat) {S : Sto}, Mug S km → ∃ l S', lcGo (gNm 5) (tAndM (tVal (eBin pNe (eVar 5) (eVar 4))) (tVal (eBin bLt (eFn m__law_gulp (aCons (eVar 0) (aCons (eC (.int 10)) aNil))) (eVar 2)))) (eVar 5) (enN km n sh c k none) (nums js) S = .ok (nums l) S' ∧ l.Sublist js ∧ k ∉ l ∧ Mx km S S'
  | [], S, hu => ⟨[], S, rfl, .slnil, by simp, Mx.refl hu⟩
  | j :: js, S, hu => by
    have hg : gNm 5 (.p (.int (j : Int))) (enN km n sh c k none) S = .ok (enN km n sh c k (some (.p (.int (j : Int))))) S := ev_gnm rfl
    have t1 : tVal (eBin pNe (eVar 5) (eVar 4)) (enN km n sh c k (some (.p (.int (j : Int))))) S = .ok (!(j == k)) S := ev_tval (ev_bin (ev_var rfl) (ev_var rfl) (rd_p _ _) (rd_p _ _) op_neN)
    by_cases hjk : j = k
    · obtain ⟨l, S', e, h1, h2, u⟩ := row_drawn js hu
      rw [show (!(j == k)) = false by simp [hjk]] at t1
      exact ⟨l, S', lcx_f hg (ev_tand t1 andK_f) e, h1.cons _, h2, u⟩
    · obtain ⟨r, S1, e1, r0, r1, u1⟩ := gulp_ok (n := 10) hu (by decide) (by decide)
      rw [show (!(j == k)) = true by simp [hjk]] at t1
      have t2 : tVal (eBin bLt (eFn m__law_gulp (aCons (eVar 0) (aCons (eC (.int 10)) aNil))) (eVar 2)) (enN km n sh c k (some (.p (.int (j : Int))))) S = .ok (decide (r < sh)) S1 := ev_tval (ev_bin (ev_fn (ev_acons (ev_var rfl) (ev_acons ev_c ev_anil)) e1) (ev_var rfl) (rd_p _ _) (rd_p _ _) rfl)
      obtain ⟨l, S', e, h1, h2, u⟩ := row_drawn js u1.mug
      cases hq : decide (r < sh) with
      | true =>
        rw [hq] at t2
        refine ⟨j :: l, S', lcx_t hg (ev_tand t1 (andK_t t2)) (ev_var rfl) e, h1.cons_cons _, ?_, u1.trans u⟩
        rw [List.mem_cons, not_or]
        exact ⟨fun z => hjk z.symm, h2⟩
      | false =>
        rw [hq] at t2
        exact ⟨l, S', lcx_f hg (ev_tand t1 (andK_t t2)) e, h1.cons _, h2, u1.trans u⟩
theorem near_drawn {km n : Nat} {S : Sto} (hu : Mug S km) (h0 : 0 < n) (hn : n ≤ 31) : ∃ w S', m__law_near [.c km, .p (.int (n : Int))] S = .ok (.p (nearP w)) S' ∧ Near n w ∧ Mx km S S' := by
  have hk := mug_lt hu
  obtain ⟨sh, S1, e1, u1⟩ := one_int (l := [1, 2, 3, 5]) hu (by simp) (by decide)
  have hk1 : km < S1.length := by rw [u1.len]; exact hk
  let E (a4 : Option Vl) : En := [some (.c km), some (.p (.int (n : Int))), some (.p (.int sh)), some (.c S1.length), a4, none]
  have body : WS (b__law_near [some (.c km), some (.p (.int (n : Int))), none, none, none, none] S) fun fl T => ∃ w, Near n w ∧ fl = .rt (.p (nearP w)) ∧ Gx km S1 T := by
    unfold b__law_near
    refine ws_seq (ev_asg (ev_fn (ev_acons (ev_var rfl) (ev_acons (ev_lst (ev_acons ev_c (ev_acons ev_c (ev_acons ev_c (ev_acons ev_c ev_anil)))) (frzs_p [_, _, _, _] _) (by simp)) ev_anil)) e1) (ev_gnm rfl)) ?_
    refine ws_seq (ev_asg (ev_lstC ev_anil frzs_z (by simp)) (ev_gnm rfl)) ?_
    refine ws_seqW (ws_mono (ws_rng (n := n) (Q := fun fl T => ∃ rows a4, fl = .nx (E a4) ∧ T[S1.length]? = some (.lst (rwI rows)) ∧ Gx km S1 T ∧ Good n rows) (fun k ρ T => ∃ rows a4, ρ = E a4 ∧ T[S1.length]? = some (.lst (rwI rows)) ∧ Gx km S1 T ∧ rows.length = k ∧ ∀ i, i < k → i ∈ row rows i ∧ (∀ e ∈ row rows i, e < n) ∧ (row rows i).Nodup) (ev_range1 (ev_var rfl) (by omega)) ⟨[], none, rfl, by simp, gx_app u1.mug _, rfl, fun i h => absurd h (Nat.not_lt_zero _)⟩ ?_ ?_) ?_)
    · rintro k ρ T hkn ⟨rows, a4, rfl, hc, gx, hl, hr⟩
      obtain ⟨l, T1, e2, s2, n2, u2⟩ := row_drawn (km := km) (n := n) (k := k) (c := S1.length) (sh := sh) (List.range n) gx.mug
      have hc1 : T1[S1.length]? = some (.lst (rwI rows)) := by rw [u2.oth _ (by omega)]; exact hc
      have ll : l.length ≤ n := by have := s2.length_le; rwa [List.length_range] at this
      have lc : eLc (itRange1 (eVar 1)) [5] (gNm 5) (tAndM (tVal (eBin pNe (eVar 5) (eVar 4))) (tVal (eBin bLt (eFn m__law_gulp (aCons (eVar 0) (aCons (eC (.int 10)) aNil))) (eVar 2)))) (eVar 5) (enN km n sh S1.length k none) T = .ok (.p (.lst (nums l))) T1 := ev_lcx (ev_range1 (ev_var rfl) (by omega)) (by rw [List.length_map, List.length_range]; omega) rfl e2
      have v := ev_bin (f := pAdd) (ev_lst (ev_acons (ev_var (ρ := enN km n sh S1.length k none) (i := 4) (S := T) rfl) ev_anil) (frzs_p [_] _) (by simp)) lc (rd_p _ _) (rd_p _ _) (op_addL (by simp [nums]; omega))
      have ap := app_p (z := .lst ([.int (k : Int)] ++ nums l)) hc1 (by rw [List.length_map, hl]; omega)
      refine ⟨_, _, ev_gnm rfl, ws_of (ev_expr (ev_mut (ev_var rfl) (isL_c hc) (ev_acons v ev_anil) ap)) ⟨_, .inl rfl, rows ++ [k :: l], _, rfl, ?_, (gx.trans u2.gx).set (Nat.le_refl _) hk1 _, by rw [List.length_append, hl]; rfl, fun i hi => ?_⟩⟩
      · rw [List.getElem?_set_self (List.getElem?_eq_some_iff.mp hc1).1, rwI, rwI, List.map_append]
        rfl
      · by_cases q : i < k
        · rw [row_app (by omega)]; exact hr i q
        · have : i = k := by omega
          subst this
          have re := row_end (near := rows) (l := i :: l)
          rw [hl] at re
          rw [re]
          refine ⟨List.mem_cons_self, fun e he => ?_, List.nodup_cons.mpr ⟨n2, List.nodup_range.sublist s2⟩⟩
          rcases List.mem_cons.mp he with rfl | he
          · exact hkn
          · exact List.mem_range.mp (s2.subset he)
    · rintro ρ T ⟨rows, a4, rfl, hc, gx, hl, hr⟩
      exact ⟨rows, a4, rfl, hc, gx, ⟨hl, fun k hk => (hr k hk).1, fun k hk => (hr k hk).2.1, fun k hk => (hr k hk).2.2⟩⟩
    · rintro fl T ⟨rows, a4, rfl, hc, gx, g⟩
      obtain ⟨w, nw, e3⟩ := grown_ok g h0 hn hc
      exact ⟨_, rfl, ws_of (ev_ret (ev_fn (ev_acons (ev_var rfl) ev_anil) e3)) ⟨w, nw, rfl, gx.set (Nat.le_refl _) hk1 _⟩⟩
  obtain ⟨f, T, e, w, nw, rfl, gx⟩ := body
  refine ⟨w, T.take S.length, ?_, nw, u1.trans ?_⟩
  · unfold m__law_near
    refine ev_mkF rfl rfl e ?_
    rw [endF_p]
  · have := gx.cut hk1
    rwa [u1.len] at this
theorem sortN_id : ∀ {l : List Nat}, l.Pairwise (· < ·) → sortN l = l
  | [], _ => rfl
  | n :: r, h => by
    obtain ⟨h1, h2⟩ := List.pairwise_cons.mp h
    show insN n (sortN r) = _
    rw [sortN_id h2]
    cases r with
    | nil => rfl
    | cons m r =>
      show (if n ≤ m then n :: m :: r else m :: insN n r) = _
      rw [if_pos (Nat.le_of_lt (h1 m List.mem_cons_self))]
theorem take_getD {l : List (List Nat)} {n i : Nat} (hi : i < n) : (l.take n).getD i [] = l.getD i [] := by
  rw [List.getD_eq_getElem?_getD, List.getElem?_take_of_lt hi, List.getD_eq_getElem?_getD]
theorem pick_take {l : List (List Nat)} {n : Nat} {r : List Nat} (h : ∀ e ∈ r, e < n) : pick (l.take n) r = pick l r := List.map_congr_left fun e he => take_getD (h e he)
theorem near_at {w : List (List Nat)} {i : Nat} (h : i < w.length) : pIx (nearP w) (.int (i : Int)) = some (.lst (nums (row w i))) := atI_near h
section
variable {n : Nat} {ts : List (List Nat)} {w : List (List Nat)} (hl : n ≤ ts.length) (ok : Spc n (ts.take n) w)
include hl ok
theorem space_text_ok (S : Sto) : m__law_space_text [.p (.lst (txts ts)), .p (nearP w)] S = .ok (.p (.str (textT n (ts.take n) w))) S := by
  have hle := ok.le
  let E (a2 a3 : Option Vl) : En := [some (.p (.lst (txts ts))), some (.p (nearP w)), a2, a3]
  have ln : ∀ {ρ : En}, ρ[1]? = some (some (.p (nearP w))) → eCall pLen (aCons (eVar 1) aNil) ρ S = .ok (.p (.int (n : Int))) S := fun {ρ} h => ev_call (ev_acons (ev_var h) ev_anil) (rds_c (rd_p _ _) (rds_nil _)) (by unfold nearP; rw [op_lenLm, ok.near.len])
  have lc := ev_lcm (it := itRange1 (eCall pLen (aCons (eVar 1) aNil))) (vs := [2]) (g := gNm 2) (a := eBin pAdd (eBin pAdd (eItem (eVar 0) (eVar 2)) (eC (.str [58, 32]))) (eMthT "str" pJoin (eC (.str [32])) (aCons (eLc (itOf (eCall pSorted (aCons (eItem (eVar 1) (eVar 2)) aNil))) [3] (gNm 3) tsYes (eItem (eVar 0) (eVar 3))) aNil))) (ys := List.range n) (en := fun (i : Nat) => P.int (i : Int)) (f := fun i => P.str (rowAt (ts.take n) w i)) (ρ := E none none) (S := S) (S1 := S) (ρ1 := fun i => E (some (.p (.int (i : Int)))) none) (ev_range1 (ln rfl) (by omega)) (by rw [List.length_range]; omega) rfl (fun y hy => ev_gnm rfl) (fun i hi => by
    have hi := List.mem_range.mp hi
    have hil : i < w.length := by rw [ok.near.len]; exact hi
    have rl := ok.pk_len hi
    have rl2 : (row w i).length ≤ n := (rowLot ok.near hi).len
    have lc2 := ev_lcm (it := itOf (eCall pSorted (aCons (eItem (eVar 1) (eVar 2)) aNil))) (vs := [3]) (g := gNm 3) (a := eItem (eVar 0) (eVar 3)) (ys := row w i) (en := fun (j : Nat) => P.int (j : Int)) (f := fun j => P.str (ts.getD j [])) (ρ := E (some (.p (.int (i : Int)))) none) (S := S) (S1 := S) (ρ1 := fun j => E (some (.p (.int (i : Int)))) (some (.p (.int (j : Int))))) (ev_itOf (ev_call (ev_acons (ev_item (ev_var rfl) (ev_var rfl) (ixv_p (near_at hil))) ev_anil) (rds_c (rd_p _ _) (rds_nil _)) (by rw [pSorted_nums, sortN_id (ok.near.srt i hi)])) fr_p rfl) (by omega) rfl (fun y hy => ev_gnm rfl) (fun j hj => ev_item (ev_var rfl) (ev_var rfl) (ixv_p (atI_txts (Nat.lt_of_lt_of_le (ok.near.lt i hi j hj) hl))))
    have ej : (row w i).map (fun j => P.str (ts.getD j [])) = txts (pick (ts.take n) (row w i)) := by
      rw [pick_take (ok.near.lt i hi)]
      unfold txts pick
      rw [List.map_map]
      rfl
    rw [ej] at lc2
    have hj : pJoin (.str [32]) [.lst (txts (pick (ts.take n) (row w i)))] = some (.str (TL.joinL [32] (pick (ts.take n) (row w i)))) := by
      refine pJoin_txts ?_
      have h2 := sum_len_le (c := 8) (l := pick (ts.take n) (row w i)) fun x hx => (ok.pk hi x hx).len
      simp only [List.length_cons, List.length_nil]
      omega
    have jl := joinL_len [32] (pick (ts.take n) (row w i))
    have js := sum_len_le (c := 8) (l := pick (ts.take n) (row w i)) fun x hx => (ok.pk hi x hx).len
    simp only [List.length_cons, List.length_nil] at jl
    have nl := (ok.at_ hi).len
    have er : rowAt (ts.take n) w i = (ts.getD i [] ++ [58, 32]) ++ TL.joinL [32] (pick (ts.take n) (row w i)) := by
      unfold rowAt rowT
      rw [List.append_assoc, take_getD hi]
    rw [take_getD hi] at nl
    rw [er]
    exact ev_bin (ev_bin (ev_item (ev_var rfl) (ev_var rfl) (ixv_p (atI_txts (by omega)))) ev_c rfl rfl (op_addS (by show _ + 2 ≤ _; omega))) (ev_mth ev_c (rd_p _ _) rfl (ev_acons lc2 ev_anil) (rd_p _ _) (rds_c rfl (rds_nil _)) hj) rfl rfl (op_addS (by rw [List.length_append]; show _ + 2 + _ ≤ _; omega)))
  have hj : pJoin (.str [10]) [.lst (txts ((List.range n).map (rowAt (ts.take n) w)))] = some (.str (textT n (ts.take n) w)) := by
    refine pJoin_txts ?_
    have h2 := sum_len_le (c := 2600) (l := (List.range n).map (rowAt (ts.take n) w)) fun x hx => by
      obtain ⟨i, hi, rfl⟩ := List.mem_map.mp hx
      have hi := List.mem_range.mp hi
      have := ok.row_len hi
      omega
    rw [List.length_map, List.length_range] at h2 ⊢
    simp only [List.length_cons, List.length_nil]
    omega
  have et : (List.range n).map (fun i => P.str (rowAt (ts.take n) w i)) = txts ((List.range n).map (rowAt (ts.take n) w)) := by
    unfold txts
    rw [List.map_map]
    rfl
  rw [et] at lc
  unfold m__law_space_text b__law_space_text
  refine ws_mkFe (ρ := E none none) rfl rfl (ws_of (ev_ret (ev_mth ev_c (rd_p _ _) rfl (ev_acons lc ev_anil) (rd_p _ _) (rds_c rfl (rds_nil _)) hj)) ?_)
  rw [endF_p, take_self]
def rows0 (ts : List (List Nat)) (w : List (List Nat)) : List (List (List Nat)) := w.map (pick ts)
omit hl ok in
theorem rw_rows0 {i : Nat} (hi : i < w.length) : rw_ (rows0 ts w) i = pick ts (row w i) := by
  unfold rw_ rows0 row
  rw [List.getD_eq_getElem?_getD, List.getElem?_map, List.getElem?_eq_getElem hi, List.getD_eq_getElem?_getD, List.getElem?_eq_getElem hi]
  rfl
omit hl in
theorem rel0 : Rel ⟨n, ts.take n, w⟩ (rows0 ts w) := by
  have hw := ok.near.len
  have pk : ∀ i, i < n → rw_ (rows0 ts w) i = pick (ts.take n) (row w i) := fun i hi => by
    rw [rw_rows0 (by omega), pick_take (ok.near.lt i hi)]
  refine ⟨by unfold rows0; rw [List.length_map]; exact hw, fun i hi => ?_, fun i hi x hx => ?_, fun i j hi hj => ?_⟩
  · rw [pk i hi]
    unfold pick
    refine List.pairwise_map.mpr (List.Pairwise.imp_of_mem (fun {a b} ha hb hab e => ?_) (srt_nd (ok.near.srt i hi)))
    exact hab (getD_injS ok.nd (by rw [ok.len]; exact ok.near.lt i hi a ha) (by rw [ok.len]; exact ok.near.lt i hi b hb) e)
  · rw [pk i hi] at hx
    obtain ⟨j, hj, rfl⟩ := List.mem_map.mp hx
    exact mem_getD (by rw [ok.len]; exact ok.near.lt i hi j hj)
  · rw [pk i hi]
    show (ts.take n).getD j [] ∈ _ ↔ _
    constructor
    · intro h
      obtain ⟨e, he, h2⟩ := List.mem_map.mp h
      have := getD_injS ok.nd (by rw [ok.len]; exact ok.near.lt i hi e he) (by rw [ok.len]; exact hj) h2
      rwa [← this]
    · exact fun h => List.mem_map.mpr ⟨j, h, rfl⟩
theorem state_ok (S : Sto) : m__law_state [.p (.lst (txts ts)), .p (nearP w)] S = .ok (.p (bkP (ts.take n) (rows0 ts w))) S := by
  have hle := ok.le
  have hw := ok.near.len
  let E (a3 : Option Vl) : En := [some (.p (.lst (txts ts))), some (.p (nearP w)), some (.c S.length), a3, none]
  let D (k : Nat) : Sto := S ++ [.dct (txts (ts.take k)) ((rows0 ts (w.take k)).map rwP)]
  have cD : ∀ k, (D k)[S.length]? = some (.dct (txts (ts.take k)) ((rows0 ts (w.take k)).map rwP)) := fun k => by simp [D]
  have ln : ∀ {ρ : En} {T : Sto}, ρ[1]? = some (some (.p (nearP w))) → eCall pLen (aCons (eVar 1) aNil) ρ T = .ok (.p (.int (n : Int))) T := fun {ρ T} h => ev_call (ev_acons (ev_var h) ev_anil) (rds_c (rd_p _ _) (rds_nil _)) (by unfold nearP; rw [op_lenLm, hw])
  unfold m__law_state b__law_state
  refine ws_mkFe (ρ := [some (.p (.lst (txts ts))), some (.p (nearP w)), none, none, none]) rfl rfl ?_
  refine ws_seq (ev_asg (show eDctC _ S = .ok (.c S.length) (D 0) from rfl) (ev_gnm rfl)) ?_
  refine ws_seqW (ws_mono (ws_rng (n := n) (Q := fun fl T => ∃ a3, fl = .nx (E a3) ∧ T = D n) (fun k ρ T => ∃ a3, ρ = E a3 ∧ T = D k) (ev_range1 (ln rfl) (by omega)) ⟨none, rfl, rfl⟩ ?_ ?_) ?_)
  · rintro k ρ T hk ⟨a3, rfl, rfl⟩
    have kl : k < ts.length := by omega
    have kw : k < w.length := by omega
    have rl2 : (row w k).length ≤ n := (rowLot ok.near hk).len
    have lc := ev_lcm (it := itOf (eItem (eVar 1) (eVar 3))) (vs := [4]) (g := gNm 4) (a := eItem (eVar 0) (eVar 4)) (ys := row w k) (en := fun (j : Nat) => P.int (j : Int)) (f := fun j => P.str (ts.getD j [])) (ρ := E (some (.p (.int (k : Int))))) (S := D k) (S1 := D k) (ρ1 := fun j => [some (.p (.lst (txts ts))), some (.p (nearP w)), some (.c S.length), some (.p (.int (k : Int))), some (.p (.int (j : Int)))]) (ev_itOf (ev_item (ev_var rfl) (ev_var rfl) (ixv_p (near_at kw))) fr_p rfl) (by omega) rfl (fun y hy => ev_gnm rfl) (fun j hj => ev_item (ev_var rfl) (ev_var rfl) (ixv_p (atI_txts (Nat.lt_of_lt_of_le (ok.near.lt k hk j hj) hl))))
    have ej : (row w k).map (fun j => P.str (ts.getD j [])) = txts (pick ts (row w k)) := by
      unfold txts pick
      rw [List.map_map]
      rfl
    rw [ej] at lc
    have new : ∀ z ∈ txts (ts.take k), keq z (.str (ts.getD k [])) = false := fun z hz => by
      obtain ⟨y, hy, rfl⟩ := List.mem_map.mp hz
      show (y == ts.getD k []) = false
      rw [beq_eq_false_iff_ne]
      rintro rfl
      obtain ⟨i, hi, e⟩ := List.getElem_of_mem hy
      rw [List.length_take] at hi
      have e2 : (ts.take n).getD i [] = (ts.take n).getD k [] := by
        rw [take_getD (by omega), take_getD hk, ← e]
        rw [List.getElem_take, List.getD_eq_getElem?_getD, List.getElem?_eq_getElem (by omega)]
        rfl
      have := getD_injS ok.nd (by rw [ok.len]; omega) (by rw [ok.len]; exact hk) e2
      omega
    have anyf : ((txts (ts.take k)).any fun a => keq a (.str (ts.getD k []))) = false := List.any_eq_false.mpr fun z hz => by rw [new z hz]; decide
    have q1 : dPutK (.str (ts.getD k [])) (txts (ts.take k)) = txts (ts.take (k + 1)) := by
      unfold dPutK
      rw [anyf, if_neg Bool.false_ne_true, List.take_add_one, List.getElem?_eq_getElem kl]
      unfold txts
      rw [List.map_append, List.getD_eq_getElem?_getD, List.getElem?_eq_getElem kl]
      rfl
    have q2 : dPutV (.str (ts.getD k [])) (rwP (pick ts (row w k))) (txts (ts.take k)) ((rows0 ts (w.take k)).map rwP) = (rows0 ts (w.take (k + 1))).map rwP := by
      unfold dPutV
      have er : row w k = w[k] := by
        unfold row
        rw [List.getD_eq_getElem?_getD, List.getElem?_eq_getElem kw]
        rfl
      rw [anyf, if_neg Bool.false_ne_true, List.take_add_one, List.getElem?_eq_getElem kw, er]
      unfold rows0
      rw [List.map_append, List.map_append]
      rfl
    have pk := ev_putKS (v := eLc (itOf (eItem (eVar 1) (eVar 3))) [4] (gNm 4) tsYes (eItem (eVar 0) (eVar 4))) (o := eVar 2) (i := eItem (eVar 0) (eVar 3)) (ρ := E (some (.p (.int (k : Int))))) lc (ev_var rfl) (ev_item (ev_var rfl) (ev_var rfl) (ixv_p (atI_txts kl))) (cD k) rfl (by unfold txts; rw [List.length_map, List.length_take]; omega) q1 q2
    rw [show (D k).set S.length (.dct (txts (ts.take (k + 1))) ((rows0 ts (w.take (k + 1))).map rwP)) = D (k + 1) by simp [D]] at pk
    exact ⟨_, _, ev_gnm rfl, ws_of pk ⟨_, .inl rfl, _, rfl, rfl⟩⟩
  · rintro ρ T ⟨a3, rfl, rfl⟩
    exact ⟨a3, rfl, rfl⟩
  · rintro fl T ⟨a3, rfl, rfl⟩
    refine ⟨_, rfl, ?_⟩
    have s1 : pSl none (some (n : Int)) (.lst (txts ts)) = some (.lst (txts (ts.take n))) := by
      show some (P.lst (cutP (txts ts) none (some (n : Int)))) = _
      rw [cutJ_map, cut_toG ts n hl]
    have fz : frzs [.p (.lst (txts (ts.take n))), .c S.length] (D n) = .ok [.lst (txts (ts.take n)), .dct (txts (ts.take n)) ((rows0 ts w).map rwP)] ((D n).set S.length (.fz (.dct (txts (ts.take n)) ((rows0 ts w).map rwP)))) := by
      refine frzs_s fr_p (frzs_s ?_ frzs_z)
      show frzN 3 (.c S.length) _ = _
      unfold frzN
      dsimp only
      rw [cD n, List.take_of_length_le (by omega : w.length ≤ n)]
    refine ws_of (ev_ret (ev_tup (ev_acons (ev_call (ev_acons (ev_sl (ev_var rfl) ev_ono (ev_oyes (ln rfl)) (rd_p _ _) s1) ev_anil) (rds_c (rd_p _ _) (rds_nil _)) rfl) (ev_acons (ev_var rfl) ev_anil)) fz (by simp))) ?_
    rw [endF_p]
    simp [D, bkP]
end
end Law

namespace Law
open PySem L2 Mir Pl
theorem set_same {T : Sto} {d : Nat} {c : Cell} (h : T[d]? = some c) : T.set d c = T := by
  apply List.ext_getElem?
  intro i
  by_cases z : d = i
  · subst z
    rw [List.getElem?_set_self (List.getElem?_eq_some_iff.mp h).1, h]
  · rw [List.getElem?_set_ne z]
section
variable {T : Sto} {d : Nat} {s : Sp3} {hs : List Sp3} (h : T[d]? = some (DrC (s :: hs)))
include h
theorem x_text {ρ : En} {i : Nat} (hi : ρ[i]? = some (some (.c d))) : eProp "Space" m_Space_text (eProp "Draft" m_Draft_space (eVar i)) ρ T = .ok (.p (.str (textT s.n s.order s.near))) T := by
  have := w_text (s := s) (hs := hs) (List.getElem?_eq_some_iff.mp h).1 hi
  rwa [set_same h] at this
theorem x_points {ρ : En} {i : Nat} (hi : ρ[i]? = some (some (.c d))) : eProp "Space" m_Space_points (eProp "Draft" m_Draft_space (eVar i)) ρ T = .ok (.p (.tup (txts s.order))) T := by
  have := w_points (s := s) (hs := hs) (List.getElem?_eq_some_iff.mp h).1 hi
  rwa [set_same h] at this
theorem x_changes {ρ : En} {i : Nat} (hi : ρ[i]? = some (some (.c d))) : eProp "Draft" m_Draft_changes (eVar i) ρ T = .ok (.p (.int ((hs.length : Nat) : Int))) T := by
  have := w_changes (s := s) (hs := hs) (List.getElem?_eq_some_iff.mp h).1 hi
  rwa [set_same h] at this
theorem x_near (ok : s.ok) {ρ : En} {i j k : Nat} (hi : ρ[i]? = some (some (.c d))) (hk : k < s.n) (hj : ρ[j]? = some (some (.p (.str (s.order.getD k []))))) : eMeth "Space" "near" m_Space_near (eProp "Draft" m_Draft_space (eVar i)) (aCons (eVar j) aNil) ρ T = .ok (.p (setP s.order (row s.near k))) T := by
  have := w_near (s := s) (hs := hs) (List.getElem?_eq_some_iff.mp h).1 ok hi hk hj
  rwa [set_same h] at this
theorem tells_ok (ok : s.ok) {rows : List (List (List Nat))} (r : Rel s rows) {e : Vl} {xs : List P} (hx : ixV (nv T e) (.p (.int (-1))) T = .ok (.p (bkP s.order rows)) T) (hr : Mir.rd T e = some (.lst xs)) (hl : xs.length = hs.length + 1) : m__law_draft_tells [.c d, e] T = .ok (.p (.bl true)) T := by
  have hle := ok.le
  let E (a4 a5 : Option Vl) : En := [some (.c d), some e, some (.p (.lst (txts s.order))), some (.p (.dct (txts s.order) (rows.map rwP))), a4, a5]
  have it : ∀ {ρ : En}, ρ[1]? = some (some e) → eItem (eVar 1) (eUn pNeg (eC (.int 1))) ρ T = .ok (.p (bkP s.order rows)) T := fun {ρ} h1 => ev_item (ev_var h1) (ev_un ev_c (rd_p _ _) op_neg1) hx
  unfold m__law_draft_tells b__law_draft_tells
  refine ws_mkFe (ρ := [some (.c d), some e, none, none, none, none]) rfl rfl ?_
  refine ws_seq (ev_asg (it rfl) (ev_gtp (xs := [.lst (txts s.order), .dct (txts s.order) (rows.map rwP)]) rfl rfl (ev_gcn (ev_gnm rfl) (ev_gcn (ev_gnm rfl) ev_gnl)))) ?_
  have t1 : tVal (eBin pNe (eProp "Space" m_Space_text (eProp "Draft" m_Draft_space (eVar 0))) (eFn m__law_told (aCons (eItem (eVar 1) (eUn pNeg (eC (.int 1)))) aNil))) (E none none) T = .ok false T := ev_tval (ev_bin (x_text h rfl) (ev_fn (ev_acons (it rfl) ev_anil) (told_ok ok r T)) (rd_p _ _) (rd_p _ _) (op_neX (text_ascD ok)))
  have t2 : tVal (eBin pNe (eProp "Draft" m_Draft_changes (eVar 0)) (eBin (pI fun i j => i - j) (eCall pLen (aCons (eVar 1) aNil)) (eC (.int 1)))) (E none none) T = .ok false T := by
    have := ev_tval (q := !(hs.length == xs.length - 1)) (ev_bin (f := pNe) (x_changes h (ρ := E none none) (i := 0) rfl) (ev_bin (f := pI fun i j => i - j) (ev_call (f := pLen) (ev_acons (ev_var (ρ := E none none) (i := 1) rfl) ev_anil) (rds_c hr (rds_nil _)) op_lenL) (ev_c (x := .int 1)) (rd_p _ _) (rd_p _ _) (op_sub1 (by omega))) (rd_p _ _) (rd_p _ _) op_neN)
    rw [show (!(hs.length == xs.length - 1)) = false by simp; omega] at this
    exact this
  refine ws_seq (ev_sif (ev_tor t1 (orK_f t2)) (ifK_f ev_pass)) ?_
  have t3 : tVal (eBin pNe (eProp "Space" m_Space_points (eProp "Draft" m_Draft_space (eVar 0))) (eCall pTuple (aCons (eVar 2) aNil))) (E none none) T = .ok false T := ev_tval (ev_bin (x_points h rfl) (ev_call (ev_acons (ev_var rfl) ev_anil) (rds_c (rd_p _ _) (rds_nil _)) op_tupL) (rd_p _ _) (rd_p _ _) (op_neX (dat_txs ok.nm 59)))
  refine ws_seq (ev_sif t3 (ifK_f ev_pass)) ?_
  have lc := ev_lcm (ys := List.range s.n) (en := fun i => P.str (s.order.getD i [])) (f := fun _ => P.bl true) (it := itOf (eVar 2)) (vs := [4]) (g := gNm 4) (a := eBin pEq (eMeth "Space" "near" m_Space_near (eProp "Draft" m_Draft_space (eVar 0)) (aCons (eVar 4) aNil)) (eCall pTuple (aCons (eLc (itOf (eVar 2)) [5] (gNm 5) (tVal (eBin pIn2 (eVar 5) (eItemK (eVar 3) (eVar 4)))) (eVar 5)) aNil))) (ρ := E none none) (S := T) (S1 := T) (ρ1 := fun i => E (some (.p (.str (s.order.getD i [])))) none) (ev_itOf (ev_var rfl) fr_p (by rw [txts_range s.order ok.len]; rfl)) (by rw [List.length_range]; omega) rfl (fun i _ => ev_gnm rfl) (fun i hi => by
    have hi := List.mem_range.mp hi
    have mt := mates_ok ok r (S := T) (ρ := E (some (.p (.str (s.order.getD i [])))) none) (ρ0 := E (some (.p (.str (s.order.getD i [])))) none) (ρ1 := fun y => E (some (.p (.str (s.order.getD i [])))) (some (.p (.str y)))) (a := 2) (b := 3) (d := 4) (v := 5) hi rfl rfl (fun y => rfl) (fun y => rfl) (fun y => rfl) (fun y => rfl)
    exact ev_bin (x_near h ok rfl hi rfl) (ev_call (ev_acons mt ev_anil) (rds_c (rd_p _ _) (rds_nil _)) op_tupL) (rd_p _ _) (rd_p _ _) (op_eqX (dat_txs (Spc.pk ok hi) 59)))
  have al : pAll [.lst ((List.range s.n).map fun _ => P.bl true)] = some (.bl true) := by
    have := op_all (l := List.range s.n) (f := fun _ => true)
    rw [show (List.range s.n).all (fun _ => true) = true by simp] at this
    exact this
  refine ws_of (ev_ret (ev_call (ev_acons lc ev_anil) (rds_c (rd_p _ _) (rds_nil _)) al)) ?_
  rw [endF_p, take_self]
end
inductive Dd (s : Sp3) : List Nat → List Nat → List Nat → Sp3 → Prop
  | add {x : List Nat} : NameOk x → x ∉ s.order → s.n < 7 → Dd s [97, 100, 100] x [] (spAdd s x)
  | rem {k : Nat} : k < s.n → 2 ≤ s.n → Dd s [114, 101, 109, 111, 118, 101] (s.order.getD k []) [] (spRem s k)
  | cut {k : Nat} : k < s.n → Dd s [99, 117, 116] (s.order.getD k []) [] (spCut s k)
  | link {k t : Nat} : k < s.n → t < s.n → Dd s [108, 105, 110, 107] (s.order.getD k []) (s.order.getD t []) (spLink s k t)
theorem Dd.ok {s s' : Sp3} {w x y : List Nat} (ok : s.ok) (h : Dd s w x y s') : s'.ok := by
  cases h with
  | add h1 h2 h3 => exact spAdd_ok ok h1 h2 (by omega)
  | rem h1 h2 => exact spRem_ok ok h1 h2
  | cut h1 => exact spCut_ok ok h1
  | link h1 h2 => exact spLink_ok ok h1 h2
theorem Dd.n7 {s s' : Sp3} {w x y : List Nat} (h7 : s.n ≤ 7) (h : Dd s w x y s') : s'.n ≤ 7 := by
  cases h with
  | add h1 h2 h3 => show s.n + 1 ≤ 7; omega
  | rem h1 h2 => show s.n - 1 ≤ 7; omega
  | cut h1 => exact h7
  | link h1 h2 => exact h7
abbrev ddP (w x y : List Nat) : P := .tup [.str w, .str x, .str y]
def freshT : List (List Nat) := [[107], [107, 107], [97], [98], [112, 48], [122, 57], [97, 98, 99, 100, 101, 102, 103, 104]]
theorem freshT_ok : ∀ x ∈ freshT, NameOk x := by
  intro x hx
  unfold freshT at hx
  simp only [List.mem_cons, List.not_mem_nil, or_false] at hx
  rcases hx with rfl | rfl | rfl | rfl | rfl | rfl | rfl <;> exact ⟨name_of fun S => by kernel_rfl, by decide, by decide, by decide, by decide, by decide⟩
theorem ne_nil {l : List (List Nat)} : pNe (.lst (txts l)) (.lst []) = some (.bl (!l.isEmpty)) ∨ ¬ ∀ x ∈ l, NameOk x := by
  by_cases h : ∀ x ∈ l, NameOk x
  · left
    have hd : (P.lst (txts l)).dat 60 = true := dat_txs (l := l) h 59
    rw [Mir.op_neD (p := .lst (txts l)) (q := .lst []) hd rfl]
    cases l with
    | nil => rfl
    | cons a l => rfl
  · exact .inr h
theorem deed_ok {s : Sp3} (ok : s.ok) {rows : List (List (List Nat))} {S : Sto} {km : Nat} (hu : Mug S km) : ∃ w x y s' S', m__law_deed [.c km, .p (bkP s.order rows)] S = .ok (.p (ddP w x y)) S' ∧ Dd s w x y s' ∧ Mx km S S' := by
  have hle := ok.le
  have lo := ok.len
  have h0 := ok.pos
  have on : s.order ≠ [] := fun z => by rw [z] at lo; simp at lo; omega
  obtain ⟨r, S1, e1, r0, r1, u1⟩ := gulp_ok (n := 7) hu (by decide) (by decide)
  obtain ⟨r, rfl⟩ := Int.eq_ofNat_of_zero_le r0
  let fr := freshT.filter fun x => !s.order.contains x
  have frm : ∀ x ∈ fr, NameOk x ∧ x ∉ s.order := fun x hx => by
    obtain ⟨a, b⟩ := List.mem_filter.mp hx
    refine ⟨freshT_ok x a, fun z => ?_⟩
    rw [List.contains_iff_mem.mpr z] at b
    cases b
  let E (a2 a5 : Option Vl) : En := [some (.c km), some (.p (bkP s.order rows)), a2, some (.p (.lst (txts s.order))), some (.p (.int (r : Int))), a5]
  have body : WS (b__law_deed [some (.c km), some (.p (bkP s.order rows)), none, none, none, none] S) fun fl T => ∃ w x y s', fl = .rt (.p (ddP w x y)) ∧ Dd s w x y s' ∧ Mx km S T := by
    unfold b__law_deed
    refine ws_seq (ev_parG (ev_acons (ev_item (ev_var rfl) ev_c (ixv_p (x := bkP s.order rows) (y := .int 0) (z := .lst (txts s.order)) rfl)) (ev_acons (ev_fn (ev_acons (ev_var rfl) (ev_acons ev_c ev_anil)) e1) ev_anil)) rfl (by decide) (ev_gcn (ev_gnm rfl) (ev_gcn (ev_gnm rfl) ev_gnl))) ?_
    have lc := ev_lc (ys := freshT) (en := P.str) (f := P.str) (q := fun x => !s.order.contains x) (it := itOf (eLst (aCons (eC (.str [107])) (aCons (eC (.str [107, 107])) (aCons (eC (.str [97])) (aCons (eC (.str [98])) (aCons (eC (.str [112, 48])) (aCons (eC (.str [122, 57])) (aCons (eC (.str [97, 98, 99, 100, 101, 102, 103, 104])) aNil))))))))) (vs := [5]) (g := gNm 5) (t := tVal (eBin pNotIn2 (eVar 5) (eVar 3))) (a := eVar 5) (ρ := E none none) (ρ0 := E none none) (ρ1 := fun x => E none (some (.p (.str x)))) (S := S1) (S1 := S1) (ev_itOf (ev_lst (ev_acons ev_c (ev_acons ev_c (ev_acons ev_c (ev_acons ev_c (ev_acons ev_c (ev_acons ev_c (ev_acons ev_c ev_anil))))))) (frzs_p [_, _, _, _, _, _, _] _) (by simp)) fr_p rfl) (by decide) rfl (fun y _ => ev_gnm rfl) (fun y _ => ev_tval (ev_bin (ev_var rfl) (ev_var rfl) (rd_p _ _) (rd_p _ _) op_niSL')) (fun y _ _ => ev_var rfl)
    refine ws_seq (ev_asg lc (ev_gnm rfl)) ?_
    let E1 : En := E (some (.p (.lst (txts fr)))) none
    have ln : eCall pLen (aCons (eVar 3) aNil) E1 S1 = .ok (.p (.int ((s.n : Nat) : Int))) S1 := ev_call (ev_acons (ev_var rfl) ev_anil) (rds_c (rd_p _ _) (rds_nil _)) (by rw [op_lenLm, lo])
    have c1 : tAndM (tVal (eBin bLt (eVar 4) (eC (.int 2)))) (tAndM (tVal (eBin pNe (eVar 2) (eLst aNil))) (tVal (eBin bLt (eCall pLen (aCons (eVar 3) aNil)) (eC (.int 7))))) E1 S1 = .ok (decide ((r : Int) < 2) && (!fr.isEmpty && decide ((s.n : Int) < 7))) S1 := ev_tand (ev_tval (ev_bin (ev_var rfl) ev_c (rd_p _ _) (rd_p _ _) rfl)) (andK_s fun _ => ev_tand (ev_tval (ev_bin (ev_var rfl) (ev_lst ev_anil frzs_z (by simp)) (rd_p _ _) (rd_p _ _) (ne_nil.resolve_right fun z => z fun x hx => (frm x hx).1))) (andK_s fun _ => ev_tval (ev_bin ln ev_c (rd_p _ _) (rd_p _ _) rfl)))
    cases q1 : decide ((r : Int) < 2) && (!fr.isEmpty && decide ((s.n : Int) < 7)) with
    | true =>
      rw [q1] at c1
      rw [Bool.and_eq_true, Bool.and_eq_true, decide_eq_true_eq, decide_eq_true_eq] at q1
      have fne : fr ≠ [] := fun z => by rw [z] at q1; exact absurd q1.2.1 (by decide)
      have lf : fr.length ≤ 7 := List.length_filter_le _ _
      obtain ⟨j, S2, hj, e2, u2⟩ := one_txt u1.mug fne (by omega)
      have hm := frm _ (mem_getD hj)
      refine ⟨_, _, ev_seq (ev_sif c1 (ifK_t (ev_ret (ev_tup (ev_acons ev_c (ev_acons (ev_fn (ev_acons (ev_var rfl) (ev_acons (ev_var rfl) ev_anil)) e2) (ev_acons ev_c ev_anil))) (frzs_p [_, _, _] _) (by simp))))) thn_r, _, _, _, _, rfl, .add hm.1 hm.2 (by omega), u1.trans u2⟩
    | false =>
      rw [q1] at c1
      refine ws_seq (ev_sif c1 (ifK_f ev_pass)) ?_
      have c2 : tAndM (tVal (eBin pEq (eVar 4) (eC (.int 2)))) (tVal (eBin (pIB fun i j => decide (j < i)) (eCall pLen (aCons (eVar 3) aNil)) (eC (.int 1)))) E1 S1 = .ok (r == 2 && decide ((1 : Int) < (s.n : Int))) S1 := ev_tand (ev_tval (ev_bin (ev_var rfl) ev_c (rd_p _ _) (rd_p _ _) (op_eqN (b := 2)))) (andK_s fun _ => ev_tval (ev_bin ln ev_c (rd_p _ _) (rd_p _ _) rfl))
      obtain ⟨j, S2, hj, e2, u2⟩ := one_txt u1.mug on (by omega)
      rw [lo] at hj
      have one : eFn m__law_one (aCons (eVar 0) (aCons (eVar 3) aNil)) E1 S1 = .ok (.p (.str (s.order.getD j []))) S2 := ev_fn (ev_acons (ev_var rfl) (ev_acons (ev_var rfl) ev_anil)) e2
      cases q2 : r == 2 && decide ((1 : Int) < (s.n : Int)) with
      | true =>
        rw [q2] at c2
        rw [Bool.and_eq_true, decide_eq_true_eq] at q2
        refine ⟨_, _, ev_seq (ev_sif c2 (ifK_t (ev_ret (ev_tup (ev_acons ev_c (ev_acons one (ev_acons ev_c ev_anil))) (frzs_p [_, _, _] _) (by simp))))) thn_r, _, _, _, _, rfl, .rem hj (by omega), u1.trans u2⟩
      | false =>
        rw [q2] at c2
        refine ws_seq (ev_sif c2 (ifK_f ev_pass)) ?_
        have c3 : tVal (eBin pEq (eVar 4) (eC (.int 3))) E1 S1 = .ok (r == 3) S1 := ev_tval (ev_bin (ev_var rfl) ev_c (rd_p _ _) (rd_p _ _) (op_eqN (b := 3)))
        cases q3 : r == 3 with
        | true =>
          rw [q3] at c3
          refine ⟨_, _, ev_seq (ev_sif c3 (ifK_t (ev_ret (ev_tup (ev_acons ev_c (ev_acons one (ev_acons ev_c ev_anil))) (frzs_p [_, _, _] _) (by simp))))) thn_r, _, _, _, _, rfl, .cut hj, u1.trans u2⟩
        | false =>
          rw [q3] at c3
          obtain ⟨t, S3, ht, e3, u3⟩ := one_txt u2.mug on (by omega)
          rw [lo] at ht
          refine ws_seq (ev_sif c3 (ifK_f ev_pass)) ?_
          refine ws_of (ev_ret (ev_tup (ev_acons ev_c (ev_acons one (ev_acons (ev_fn (ev_acons (ev_var rfl) (ev_acons (ev_var rfl) ev_anil)) e3) ev_anil))) (frzs_p [_, _, _] _) (by simp))) ⟨_, _, _, _, rfl, .link hj ht, (u1.trans u2).trans u3⟩
  obtain ⟨f, T, e, w, x, y, s', rfl, hd, u⟩ := body
  refine ⟨w, x, y, s', T, ?_, hd, u⟩
  unfold m__law_deed
  refine ev_mkF rfl rfl e ?_
  rw [endF_p, take_len u.len]
theorem did_ok {s s' : Sp3} {hs : List Sp3} {w x y : List Nat} (ok : s.ok) (h7 : s.n ≤ 7) (hd : Dd s w x y s') {T : Sto} {d : Nat} (h : T[d]? = some (DrC (s :: hs))) (nm : Bool) : m__law_did [.c d, .p (ddP w x y), .p (.bl nm)] T = .ok (.p .non) (T.set d (DrC (s' :: s :: hs))) := by
  have ok' := hd.ok ok
  let E : En := [some (.c d), some (.p (ddP w x y)), some (.p (.bl nm)), some (.p (.str w)), some (.p (.str x)), some (.p (.str y))]
  have oi : ∀ {f : PySem.Str}, f ≠ "held" → isO "Draft" f T (nv T (.c d)) = true := fun hf => isO_dr h hf
  unfold m__law_did b__law_did
  refine ws_mkFe (ρ := [some (.c d), some (.p (ddP w x y)), some (.p (.bl nm)), none, none, none]) rfl rfl ?_
  refine ws_seq (ρ1 := E) (ev_asg (ev_var rfl) (ev_gtp (xs := [.str w, .str x, .str y]) rfl rfl (ev_gcn (ev_gnm rfl) (ev_gcn (ev_gnm rfl) (ev_gcn (ev_gnm rfl) ev_gnl))))) ?_
  have no : ∀ {u : List Nat}, pEq (.str w) (.str u) = some (.bl false) → ∀ {m : MS}, sIf (tVal (eBin pEq (eVar 3) (eC (.str u)))) m sPass E T = .ok (.nx E) T := fun {u} hq {m} => ev_sif (ev_tval (ev_bin (ev_var rfl) ev_c (rd_p _ _) (rd_p _ _) hq)) (ifK_f ev_pass)
  have yes : ∀ {u : List Nat}, pEq (.str w) (.str u) = some (.bl true) → ∀ {a : ME} {S' : Sto}, a E T = .ok (.p .non) S' → sIf (tVal (eBin pEq (eVar 3) (eC (.str u)))) (sRet a) sPass E T = .ok (.rt (.p .non)) S' := fun {u} hq {a S'} ha => ev_sif (ev_tval (ev_bin (ev_var rfl) ev_c (rd_p _ _) (rd_p _ _) hq)) (ifK_t (ev_ret ha))
  have iff : ∀ {a b : ME} {S' : Sto}, a E T = .ok (.p .non) S' → b E T = .ok (.p .non) S' → eIfM (tVal (eVar 2)) a b E T = .ok (.p .non) S' := fun {a b S'} ha hb => by
    cases nm with
    | true => exact ev_if (ev_tval (q := true) (ev_var rfl)) (ifK_t ha)
    | false => exact ev_if (ev_tval (q := false) (ev_var rfl)) (ifK_f hb)
  have fin : ∀ {S' : Sto}, S'.length = T.length → endF T.length (.ok (.rt (.p .non)) S') = .ok (.p .non) S' := fun {S'} hl => by rw [endF_p, take_len hl]
  cases hd with
  | add h1 h2 h3 =>
    have md := dr_add ok ok' h1 h2 (by omega) rfl (spAdd_bits x) h
    exact ⟨_, _, ev_seq (yes rfl (iff (ev_methK (ev_var rfl) (oi (by decide)) ev_anil (ev_acons (ev_var rfl) ev_anil) rfl rfl rfl md) (ev_meth (ev_var rfl) (oi (by decide)) (ev_acons (ev_var rfl) ev_anil) md))) thn_r, fin List.length_set⟩
  | rem h1 h2 =>
    have md := dr_remove ok ok' h1 h2 (by omega) rfl (spRem_bits ok h1 h2) h
    refine ws_seq (no rfl) ?_
    exact ⟨_, _, ev_seq (yes rfl (ev_meth (ev_var rfl) (oi (by decide)) (ev_acons (ev_var rfl) ev_anil) md)) thn_r, fin List.length_set⟩
  | cut h1 =>
    have md := dr_cut ok ok' h1 rfl (spCut_bits ok h1) h
    refine ws_seq (no rfl) ?_
    refine ws_seq (no rfl) ?_
    exact ⟨_, _, ev_seq (yes rfl (iff (ev_methK (ev_var rfl) (oi (by decide)) ev_anil (ev_acons (ev_var rfl) ev_anil) rfl rfl rfl md) (ev_meth (ev_var rfl) (oi (by decide)) (ev_acons (ev_var rfl) ev_anil) md))) thn_r, fin List.length_set⟩
  | link h1 h2 =>
    have md := dr_link ok ok' h1 h2 rfl (spLink_bits ok h1 h2) h
    refine ws_seq (no rfl) ?_
    refine ws_seq (no rfl) ?_
    refine ws_seq (no rfl) ?_
    exact ws_of (ev_ret (iff (ev_methK (ev_var rfl) (oi (by decide)) ev_anil (ev_acons (ev_var rfl) (ev_acons (ev_var rfl) ev_anil)) rfl rfl rfl md) (ev_meth (ev_var rfl) (oi (by decide)) (ev_acons (ev_var rfl) (ev_acons (ev_var rfl) ev_anil)) md))) (fin List.length_set)
end Law

namespace Law
open PySem L2 Mir Pl
theorem mergeP_new {g : Nat → List Nat} {v : Nat → P} : ∀ (is : List Nat) {ks xs : List P}, (is.map g).Nodup → (∀ i ∈ is, ∀ z ∈ ks, keq z (.str (g i)) = false) → mergeP (is.map fun i => P.tup [.str (g i), v i]) ks xs = some (ks ++ is.map (fun i => P.str (g i)), xs ++ is.map v)
  | [], ks, xs, _, _ => by simp [mergeP]
  | i :: is, ks, xs, nd, h => by
    have nd' := List.nodup_cons.mp nd
    have nk : (ks.any fun a => keq a (.str (g i))) = false := List.any_eq_false.mpr fun z hz => by rw [h i List.mem_cons_self z hz]; decide
    show mergeP (is.map fun i => P.tup [.str (g i), v i]) (dPutK (.str (g i)) ks) (dPutV (.str (g i)) (v i) ks xs) = _
    unfold dPutK dPutV
    rw [nk, if_neg Bool.false_ne_true, if_neg Bool.false_ne_true]
    rw [mergeP_new is nd'.2 (fun j hj z hz => ?_)]
    · rw [List.append_assoc, List.append_assoc]; rfl
    · rcases List.mem_append.mp hz with hz | hz
      · exact h j (List.mem_cons_of_mem _ hj) z hz
      · rw [List.mem_singleton.mp hz]
        show (g i == g j) = false
        rw [beq_eq_false_iff_ne]
        intro e
        exact nd'.1 (by rw [e]; exact List.mem_map_of_mem hj)
theorem dput_at {A : Type} {f : A → P} : ∀ {order : List (List Nat)} {vs : List A} {i : Nat} {y : A}, order.Nodup → i < order.length → order.length = vs.length → dRep (.str (order.getD i [])) (f y) (txts order) (vs.map f) = (vs.set i y).map f
  | [], _, i, _, _, h, _ => absurd h (Nat.not_lt_zero _)
  | a :: order, [], i, _, _, _, hl => by simp at hl
  | a :: order, b :: vs, 0, y, nd, h, hl => by
    have nd' := List.nodup_cons.mp nd
    show (if keq (.str a) (.str a) then f y else f b) :: dRep (.str a) (f y) (txts order) (vs.map f) = f y :: vs.map f
    rw [if_pos (show keq (.str a) (.str a) = true from by show (a == a) = true; exact beq_self_eq_true a)]
    congr 1
    have key : ∀ {o : List (List Nat)} {ws : List A}, a ∉ o → o.length = ws.length → dRep (.str a) (f y) (txts o) (ws.map f) = ws.map f := by
      intro o
      induction o with
      | nil =>
        intro ws _ hl
        cases ws with
        | nil => rfl
        | cons _ _ => simp at hl
      | cons c o ih =>
        intro ws hn hl
        cases ws with
        | nil => simp at hl
        | cons w ws =>
          rw [List.mem_cons, not_or] at hn
          show (if keq (.str c) (.str a) then f y else f w) :: dRep (.str a) (f y) (txts o) (ws.map f) = f w :: ws.map f
          rw [if_neg (show ¬ keq (.str c) (.str a) = true from fun e => hn.1 (eq_of_beq e).symm), ih hn.2 (by simpa using hl)]
    exact key nd'.1 (by simpa using hl)
  | a :: order, b :: vs, i + 1, y, nd, hi, hl => by
    have nd' := List.nodup_cons.mp nd
    have hi' : i < order.length := by simpa using hi
    show (if keq (.str a) (.str (order.getD i [])) then f y else f b) :: dRep (.str (order.getD i [])) (f y) (txts order) (vs.map f) = f b :: (vs.set i y).map f
    rw [if_neg ?_, dput_at nd'.2 hi' (by simpa using hl)]
    intro e
    have e : (a == order.getD i []) = true := e
    rw [eq_of_beq e] at nd'
    exact nd'.1 (mem_getD hi')
theorem any_at {order : List (List Nat)} {i : Nat} (hi : i < order.length) : ((txts order).any fun a => keq a (.str (order.getD i []))) = true := by
  rw [List.any_eq_true]
  exact ⟨_, List.mem_map_of_mem (mem_getD hi), by show (_ == _) = true; exact beq_self_eq_true _⟩
theorem any_not {order : List (List Nat)} {x : List Nat} (h : x ∉ order) : ((txts order).any fun a => keq a (.str x)) = false := by
  rw [List.any_eq_false]
  intro z hz
  obtain ⟨y, hy, rfl⟩ := List.mem_map.mp hz
  show ¬ (y == x) = true
  intro e
  rw [eq_of_beq e] at hy
  exact h hy
theorem rw_set {rows : List (List (List Nat))} {k i : Nat} {r : List (List Nat)} (hk : k < rows.length) : rw_ (rows.set k r) i = if i = k then r else rw_ rows i := by
  unfold rw_
  rw [List.getD_eq_getElem?_getD, List.getElem?_set, List.getD_eq_getElem?_getD]
  by_cases h : i = k
  · subst h
    rw [if_pos rfl, if_pos hk, if_pos rfl]; rfl
  · rw [if_neg (Ne.symm h), if_neg h]
theorem rw_map {n i : Nat} {f : Nat → List (List Nat)} (h : i < n) : rw_ ((List.range n).map f) i = f i := by
  unfold rw_
  rw [List.getD_eq_getElem?_getD, List.getElem?_map, List.getElem?_range h]
  rfl
theorem rows_range {rows : List (List (List Nat))} {n : Nat} (h : rows.length = n) : rows = (List.range n).map (rw_ rows) := by
  apply List.ext_getElem?
  intro i
  rw [List.getElem?_map]
  by_cases hi : i < n
  · rw [List.getElem?_range hi]
    show rows[i]? = some (rows.getD i [])
    rw [List.getD_eq_getElem?_getD, List.getElem?_eq_getElem (by omega)]
    rfl
  · rw [List.getElem?_eq_none (by omega), List.getElem?_eq_none (by rw [List.length_range]; omega)]
    rfl
section
variable {s : Sp3} {rows : List (List (List Nat))} (ok : s.ok) (r : Rel s rows)
include ok
theorem ord_lt {k : Nat} (hk : k < s.n) : k < s.order.length := by rw [ok.len]; exact hk
theorem ord_inj {i j : Nat} (hi : i < s.n) (hj : j < s.n) (e : s.order.getD i [] = s.order.getD j []) : i = j := getD_injS ok.nd (ord_lt ok hi) (ord_lt ok hj) e
include r
theorem rel_cut {k : Nat} (hk : k < s.n) : Rel (spCut s k) (rows.set k [s.order.getD k []]) := by
  have kl : k < rows.length := by rw [r.len]; exact hk
  refine ⟨by rw [List.length_set]; exact r.len, fun i hi => ?_, fun i hi x hx => ?_, fun i j hi hj => ?_⟩
  · rw [rw_set kl]
    split
    · simp
    · exact r.nd i hi
  · rw [rw_set kl] at hx
    split at hx
    · rw [List.mem_singleton.mp hx]; exact mem_getD (ord_lt ok hk)
    · exact r.sub i hi x hx
  · have hi : i < s.n := hi
    have hj : j < s.n := hj
    rw [rw_set kl]
    show s.order.getD j [] ∈ _ ↔ j ∈ row (rowsF s.n _) i
    rw [mem_rowsF hi]
    by_cases h : i = k
    · rw [if_pos h, if_pos h, List.mem_singleton, beq_iff_eq]
      exact ⟨fun e => ⟨hj, ord_inj ok hj hk e⟩, fun e => by rw [e.2]⟩
    · rw [if_neg h, if_neg h, r.mem i j hi hj, List.contains_iff_mem]
      exact ⟨fun e => ⟨hj, e⟩, fun e => e.2⟩
def lnk (s : Sp3) (rows : List (List (List Nat))) (k t j : Nat) : List (List Nat) := if (rw_ rows j).contains (s.order.getD k []) then rw_ rows j ++ (rw_ rows t).filter (fun z => !(rw_ rows j).contains z) else rw_ rows j
theorem rel_link {k t : Nat} (hk : k < s.n) (ht : t < s.n) : Rel (spLink s k t) ((List.range s.n).map (lnk s rows k t)) := by
  refine ⟨by rw [List.length_map, List.length_range]; rfl, fun i hi => ?_, fun i hi x hx => ?_, fun i j hi hj => ?_⟩
  · have hi : i < s.n := hi
    rw [rw_map hi]
    unfold lnk
    split
    · refine List.nodup_append.mpr ⟨r.nd i hi, (r.nd t ht).sublist List.filter_sublist, fun a ha b hb e => ?_⟩
      subst e
      have := (List.mem_filter.mp hb).2
      rw [List.contains_iff_mem.mpr ha] at this
      cases this
    · exact r.nd i hi
  · have hi : i < s.n := hi
    rw [rw_map hi] at hx
    unfold lnk at hx
    split at hx
    · rcases List.mem_append.mp hx with h | h
      · exact r.sub i hi x h
      · exact r.sub t ht x (List.mem_filter.mp h).1
    · exact r.sub i hi x hx
  · have hi : i < s.n := hi
    have hj : j < s.n := hj
    rw [rw_map hi]
    show s.order.getD j [] ∈ _ ↔ j ∈ row (rowsF s.n _) i
    rw [mem_rowsF hi, Bool.or_eq_true, Bool.and_eq_true, List.contains_iff_mem, List.contains_iff_mem, List.contains_iff_mem]
    have m1 := r.mem i j hi hj
    have m2 := r.mem i k hi hk
    have m3 := r.mem t j ht hj
    unfold lnk
    by_cases h : s.order.getD k [] ∈ rw_ rows i
    · rw [if_pos (List.contains_iff_mem.mpr h), List.mem_append, List.mem_filter, m1, m3]
      constructor
      · rintro (z | z)
        · exact ⟨hj, .inl z⟩
        · exact ⟨hj, .inr ⟨m2.mp h, z.1⟩⟩
      · rintro ⟨_, z | z⟩
        · exact .inl z
        · by_cases q : j ∈ row s.near i
          · exact .inl q
          · refine .inr ⟨z.2, ?_⟩
            rw [Bool.not_eq_true', Bool.eq_false_iff]
            exact fun y => q (m1.mp (List.contains_iff_mem.mp y))
    · rw [if_neg (fun z => h (List.contains_iff_mem.mp z)), m1]
      exact ⟨fun z => ⟨hj, .inl z⟩, fun z => z.2.elim id fun y => absurd (m2.mpr y.1) h⟩
theorem rel_add {x : List Nat} (hx : x ∉ s.order) : Rel (spAdd s x) (rows ++ [[x]]) := by
  have rl := r.len
  have a1 : ∀ i, i < s.n → rw_ (rows ++ [[x]]) i = rw_ rows i := fun i hi => by
    unfold rw_
    rw [List.getD_eq_getElem?_getD, List.getElem?_append_left (by omega), List.getD_eq_getElem?_getD]
  have a2 : rw_ (rows ++ [[x]]) s.n = [x] := by
    unfold rw_
    rw [List.getD_eq_getElem?_getD, List.getElem?_append_right (by omega), rl, Nat.sub_self]
    rfl
  have o1 : ∀ j, j < s.n → (s.order ++ [x]).getD j [] = s.order.getD j [] := fun j hj => by
    rw [List.getD_eq_getElem?_getD, List.getElem?_append_left (ord_lt ok hj), List.getD_eq_getElem?_getD]
  have o2 : (s.order ++ [x]).getD s.n [] = x := by
    rw [List.getD_eq_getElem?_getD, List.getElem?_append_right (by rw [ok.len]; exact Nat.le_refl _), ok.len, Nat.sub_self]
    rfl
  have n1 : ∀ i, i < s.n → row (s.near ++ [[s.n]]) i = row s.near i := fun i hi => row_app (by rw [ok.near.len]; exact hi)
  have n2 : row (s.near ++ [[s.n]]) s.n = [s.n] := by
    have := row_end (near := s.near) (l := [s.n])
    rwa [ok.near.len] at this
  refine ⟨by rw [List.length_append, rl]; rfl, fun i hi => ?_, fun i hi y hy => ?_, fun i j hi hj => ?_⟩
  · have hi : i < s.n + 1 := hi
    by_cases q : i < s.n
    · rw [a1 i q]; exact r.nd i q
    · rw [show i = s.n by omega, a2]; simp
  · have hi : i < s.n + 1 := hi
    show y ∈ s.order ++ [x]
    by_cases q : i < s.n
    · rw [a1 i q] at hy; exact List.mem_append_left _ (r.sub i q y hy)
    · rw [show i = s.n by omega, a2] at hy; exact List.mem_append_right _ hy
  · have hi : i < s.n + 1 := hi
    have hj : j < s.n + 1 := hj
    show (s.order ++ [x]).getD j [] ∈ rw_ (rows ++ [[x]]) i ↔ j ∈ row (s.near ++ [[s.n]]) i
    by_cases q : i < s.n
    · rw [a1 i q, n1 i q]
      by_cases q2 : j < s.n
      · rw [o1 j q2]; exact r.mem i j q q2
      · have : j = s.n := by omega
        subst this
        rw [o2]
        exact ⟨fun z => absurd (r.sub i q x z) hx, fun z => absurd (ok.near.lt i q _ z) (Nat.lt_irrefl _)⟩
    · have : i = s.n := by omega
      subst this
      rw [a2, n2, List.mem_singleton, List.mem_singleton]
      by_cases q2 : j < s.n
      · rw [o1 j q2]
        exact ⟨fun z => absurd (by rw [← z]; exact mem_getD (ord_lt ok q2)) hx, fun z => by omega⟩
      · have : j = s.n := by omega
        subst this
        rw [o2]
        simp
omit r in
theorem rem_ord {k j : Nat} (hk : k < s.n) : (spRem s k).order.getD j [] = s.order.getD (sk k j) [] := by
  show (s.order.take k ++ s.order.drop (k + 1)).getD j [] = _
  have hl := ok.len
  have lt : (s.order.take k).length = k := by rw [List.length_take]; omega
  unfold sk
  by_cases h : j < k
  · rw [if_pos h, List.getD_eq_getElem?_getD, List.getElem?_append_left (by omega), List.getElem?_take_of_lt h, List.getD_eq_getElem?_getD]
  · rw [if_neg h, List.getD_eq_getElem?_getD, List.getElem?_append_right (by omega), lt, List.getElem?_drop, show k + 1 + (j - k) = j + 1 by omega, List.getD_eq_getElem?_getD]
omit ok r in
theorem sk_ne {k j : Nat} : sk k j ≠ k := by
  unfold sk
  split <;> omega
def remR (s : Sp3) (rows : List (List (List Nat))) (k i : Nat) : List (List Nat) := (rw_ rows (sk k i)).filter fun z => !(z == s.order.getD k [])
theorem rel_rem {k : Nat} (hk : k < s.n) : Rel (spRem s k) ((List.range (s.n - 1)).map (remR s rows k)) := by
  refine ⟨by rw [List.length_map, List.length_range]; rfl, fun i hi => ?_, fun i hi x hx => ?_, fun i j hi hj => ?_⟩
  · have hi : i < s.n - 1 := hi
    rw [rw_map hi]
    exact (r.nd _ (sk_lt hk hi)).sublist List.filter_sublist
  · have hi : i < s.n - 1 := hi
    rw [rw_map hi] at hx
    obtain ⟨h1, h2⟩ := List.mem_filter.mp hx
    have hm := r.sub _ (sk_lt hk hi) x h1
    have hne : x ≠ s.order.getD k [] := fun e => by rw [e, beq_self_eq_true] at h2; cases h2
    show x ∈ s.order.take k ++ s.order.drop (k + 1)
    have e : s.order = s.order.take k ++ s.order.getD k [] :: s.order.drop (k + 1) := by
      have hkl := ord_lt ok hk
      rw [List.getD_eq_getElem?_getD, List.getElem?_eq_getElem hkl]
      show s.order = s.order.take k ++ s.order[k] :: s.order.drop (k + 1)
      rw [List.getElem_cons_drop, List.take_append_drop]
    rw [e] at hm
    rcases List.mem_append.mp hm with h | h
    · exact List.mem_append_left _ h
    · rcases List.mem_cons.mp h with h | h
      · exact absurd h hne
      · exact List.mem_append_right _ h
  · have hi : i < s.n - 1 := hi
    have hj : j < s.n - 1 := hj
    have hi2 := sk_lt hk hi
    have hj2 := sk_lt hk hj
    rw [rw_map hi, rem_ord ok hk]
    show s.order.getD (sk k j) [] ∈ remR s rows k i ↔ j ∈ row (rowsF (s.n - 1) _) i
    rw [mem_rowsF hi, List.contains_iff_mem]
    unfold remR
    rw [List.mem_filter, r.mem _ _ hi2 hj2]
    constructor
    · exact fun z => ⟨hj, z.1⟩
    · refine fun z => ⟨z.2, ?_⟩
      rw [Bool.not_eq_true', beq_eq_false_iff_ne]
      exact fun e => sk_ne (k := k) (j := j) (ord_inj ok hj2 hk e)
omit r in
theorem rem_fil {k : Nat} (hk : k < s.n) : s.order.filter (fun z => !(z == s.order.getD k [])) = (spRem s k).order := by
  have hkl := ord_lt ok hk
  show _ = s.order.take k ++ s.order.drop (k + 1)
  have e : s.order = s.order.take k ++ s.order.getD k [] :: s.order.drop (k + 1) := by
    rw [List.getD_eq_getElem?_getD, List.getElem?_eq_getElem hkl]
    show s.order = s.order.take k ++ s.order[k] :: s.order.drop (k + 1)
    rw [List.getElem_cons_drop, List.take_append_drop]
  have nd := ok.nd
  generalize hx : s.order.getD k [] = x at e ⊢
  rw [e] at nd
  obtain ⟨n1, n2, n3⟩ := List.nodup_append.mp nd
  have n4 := List.nodup_cons.mp n2
  have e2 : s.order.filter (fun z => !(z == x)) = (s.order.take k ++ x :: s.order.drop (k + 1)).filter fun z => !(z == x) := congrArg (List.filter _) e
  rw [e2, List.filter_append, List.filter_cons, if_neg (by simp), List.filter_eq_self.mpr fun a ha => ?_, List.filter_eq_self.mpr fun a ha => ?_]
  · rw [Bool.not_eq_true', beq_eq_false_iff_ne]
    exact fun z => n4.1 (by rw [← z]; exact ha)
  · rw [Bool.not_eq_true', beq_eq_false_iff_ne]
    exact fun z => n3 a ha x List.mem_cons_self z
end
end Law

namespace Mir
open PySem L2 Pl
theorem ev_dictPC {m : ME} {ρ : En} {S S1 : Sto} {d : Vl} {xs ks vs : List P} (hm : m ρ S = .ok d S1) (hr : Mir.rd S1 d = some (.lst xs)) (hq : mergeP xs [] [] = some (ks, vs)) : eDictPC m ρ S = .ok (.c S1.length) (S1 ++ [.dct ks vs]) := by
  unfold eDictPC
  rw [hm, bind_ok, hr]
  dsimp only
  rw [hq]
theorem ev_cpyC {m : ME} {ρ : En} {S S1 : Sto} {d : Vl} {xs : List P} (hm : m ρ S = .ok d S1) (hr : Mir.rd S1 d = some (.lst xs)) : eCpyC m ρ S = .ok (.c S1.length) (S1 ++ [.lst xs]) := by
  unfold eCpyC
  rw [hm, bind_ok, hr]
theorem frz_dct {k : Nat} {S : Sto} {ks xs : List P} (h : S[k]? = some (.dct ks xs)) : frz (.c k) S = .ok (.dct ks xs) (S.set k (.fz (.dct ks xs))) := by
  show frzN 3 (.c k) S = _
  unfold frzN
  dsimp only
  rw [h]
theorem rd_dct {k : Nat} {S : Sto} {ks xs : List P} (h : S[k]? = some (.dct ks xs)) : Mir.rd S (.c k) = some (.dct ks xs) := by
  unfold Mir.rd
  dsimp only
  rw [h]
end Mir
namespace Law
open PySem L2 Mir Pl
theorem ret_bk {T : Sto} {o dd m : Nat} {ρ : En} {xs ks vs : List P} (hm : m ≤ o) (hm2 : m ≤ dd) (hne : o ≠ dd) (h2 : ρ[2]? = some (some (.c o))) (h3 : ρ[3]? = some (some (.c dd))) (ho : T[o]? = some (.lst xs) ∨ T[o]? = some (.fz (.lst xs))) (hd : T[dd]? = some (.dct ks vs)) : ∃ T', eTup (aCons (eVar 2) (aCons (eVar 3) aNil)) ρ T = .ok (.p (.tup [.lst xs, .dct ks vs])) T' ∧ T'.take m = T.take m := by
  have tk : ∀ {A : Sto} {i : Nat} {c : Cell}, m ≤ i → (A.set i c).take m = A.take m := fun {A i c} h => by rw [List.take_set_of_le h]
  rcases ho with ho | ho
  · have hd' : (T.set o (.fz (.lst xs)))[dd]? = some (.dct ks vs) := by rw [List.getElem?_set_ne hne]; exact hd
    exact ⟨_, ev_tup (ev_acons (ev_var h2) (ev_acons (ev_var h3) ev_anil)) (frzs_s (frz_lst ho) (frzs_s (frz_dct hd') frzs_z)) (by simp), by rw [tk hm2, tk hm]⟩
  · exact ⟨_, ev_tup (ev_acons (ev_var h2) (ev_acons (ev_var h3) ev_anil)) (frzs_s (frz_fz ho) (frzs_s (frz_dct hd) frzs_z)) (by simp), tk hm2⟩
theorem rows_dct {rows : List (List (List Nat))} {n : Nat} (h : rows.length = n) : rows.map rwP = (List.range n).map fun i => rwP (rw_ rows i) := by
  have := congrArg (List.map rwP) (rows_range h)
  rw [this, List.map_map]
  rfl
abbrev enA (bk dp : P) (o dd : Nat) (w x y : List Nat) (a7 a8 a9 : Option Vl) : En := [some (.p bk), some (.p dp), some (.c o), some (.c dd), some (.p (.str w)), some (.p (.str x)), some (.p (.str y)), a7, a8, a9]
section
variable {s s' : Sp3} {rows : List (List (List Nat))} (ok : s.ok) (r : Rel s rows) (h7 : s.n ≤ 7)
include ok r h7
theorem after_ok {w x y : List Nat} (hd : Dd s w x y s') (S : Sto) : ∃ rows', m__law_after [.p (bkP s.order rows), .p (ddP w x y)] S = .ok (.p (bkP s'.order rows')) S ∧ Rel s' rows' := by
  have lo := ok.len
  have rl := r.len
  let O : Nat := S.length
  let D : Nat := S.length + 1
  let DC : Cell := .dct (txts s.order) (rows.map rwP)
  let F : Sto := S ++ [.lst (txts s.order)] ++ [DC]
  have fl : F.length = S.length + 2 := by simp [F]
  have FO : F[O]? = some (.lst (txts s.order)) := by simp [F, O]
  have FD : F[D]? = some DC := by
    show (S ++ [.lst (txts s.order)] ++ [DC])[S.length + 1]? = _
    have : (S ++ [Cell.lst (txts s.order)]).length = S.length + 1 := by simp
    rw [← this]
    simp
  have Ft : F.take S.length = S := by simp [F]
  let E := enA (bkP s.order rows) (ddP w x y) O D w x y
  have limr : ∀ i, i < s.n → (rw_ rows i).length ≤ 7 := fun i hi => by have := r.lim ok hi; omega
  have ascr : ∀ i, i < s.n → ∀ z ∈ rw_ rows i, asc z = true := fun i hi z hz => (ok.nm z (r.sub i hi z hz)).asc
  have tk : ∀ {A : Sto} {i : Nat} {c : Cell}, S.length ≤ i → (A.set i c).take S.length = A.take S.length := fun {A i c} h => by rw [List.take_set_of_le h]
  -- the copies
  have lc0 := ev_lcm (ys := List.range s.n) (en := fun i => P.str (s.order.getD i [])) (f := fun i => P.tup [.str (s.order.getD i []), rwP (rw_ rows i)]) (it := itOf (eItem (eVar 0) (eC (.int 0)))) (vs := [5]) (g := gNm 5) (a := eTup (aCons (eVar 5) (aCons (eCall pList (aCons (eItemK (eItem (eVar 0) (eC (.int 1))) (eVar 5)) aNil)) aNil))) (ρ := [some (.p (bkP s.order rows)), some (.p (ddP w x y)), none, none, none, none, none, none, none, none]) (S := S ++ [.lst (txts s.order)]) (S1 := S ++ [.lst (txts s.order)]) (ρ1 := fun i => [some (.p (bkP s.order rows)), some (.p (ddP w x y)), none, none, none, some (.p (.str (s.order.getD i []))), none, none, none, none]) (ev_itOf (ev_item (ev_var rfl) ev_c (ixv_p (x := bkP s.order rows) (y := .int 0) (z := .lst (txts s.order)) rfl)) fr_p (by rw [txts_range s.order lo]; rfl)) (by rw [List.length_range]; omega) rfl (fun i _ => ev_gnm rfl) (fun i hi => by
    have hi := List.mem_range.mp hi
    exact ev_tup (ev_acons (ev_var rfl) (ev_acons (ev_call (ev_acons (ev_near ok r hi (ev_item (ev_var rfl) ev_c (ixv_p (x := bkP s.order rows) (y := .int 1) (z := .dct (txts s.order) (rows.map rwP)) rfl)) (ev_var rfl) (rd_p _ _)) ev_anil) (rds_c (rd_p _ _) (rds_nil _)) op_lstL) ev_anil)) (frzs_p [_, _] _) (by simp))
  have mg0 : mergeP ((List.range s.n).map fun i => P.tup [.str (s.order.getD i []), rwP (rw_ rows i)]) [] [] = some (txts s.order, rows.map rwP) := by
    rw [mergeP_new (g := fun i => s.order.getD i []) (v := fun i => rwP (rw_ rows i)) (List.range s.n) (by rw [← ord_range s.order lo]; exact ok.nd) (fun i _ z hz => by cases hz), List.nil_append, List.nil_append, ← txts_range s.order lo, ← rows_dct rl]
  have no : ∀ {u : List Nat}, pEq (.str w) (.str u) = some (.bl false) → ∀ {m : MS} {a7 a8 a9 : Option Vl} {T : Sto}, sIf (tVal (eBin pEq (eVar 4) (eC (.str u)))) m sPass (E a7 a8 a9) T = .ok (.nx (E a7 a8 a9)) T := fun {u} hq {m a7 a8 a9 T} => ev_sif (ev_tval (ev_bin (ev_var rfl) ev_c (rd_p _ _) (rd_p _ _) hq)) (ifK_f ev_pass)
  have noG : ∀ {u : List Nat}, pEq (.str w) (.str u) = some (.bl false) → ∀ {m : MS} {o dd : Nat} {a7 a8 a9 : Option Vl} {T : Sto}, sIf (tVal (eBin pEq (eVar 4) (eC (.str u)))) m sPass (enA (bkP s.order rows) (ddP w x y) o dd w x y a7 a8 a9) T = .ok (.nx (enA (bkP s.order rows) (ddP w x y) o dd w x y a7 a8 a9)) T := fun {u} hq {m o dd a7 a8 a9 T} => ev_sif (ev_tval (ev_bin (ev_var rfl) ev_c (rd_p _ _) (rd_p _ _) hq)) (ifK_f ev_pass)
  have yesT : ∀ {u : List Nat}, pEq (.str w) (.str u) = some (.bl true) → tVal (eBin pEq (eVar 4) (eC (.str u))) (E none none none) F = .ok true F := fun {u} hq => ev_tval (ev_bin (ev_var rfl) ev_c (rd_p _ _) (rd_p _ _) hq)
  have start : ∀ {R : Vl → Sto → Prop} {k : MS}, WS (k (E none none none) F) (fun f T => ∃ v S', endF S.length (.ok f T) = .ok v S' ∧ R v S') → WS (sSeq (sParG 2 (aCons (eCpyC (eItem (eVar 0) (eC (.int 0)))) (aCons (eDictPC (eLc (itOf (eItem (eVar 0) (eC (.int 0)))) [5] (gNm 5) tsYes (eTup (aCons (eVar 5) (aCons (eCall pList (aCons (eItemK (eItem (eVar 0) (eC (.int 1))) (eVar 5)) aNil)) aNil))))) aNil)) (gCn (gNm 2) (gCn (gNm 3) gNl))) (sSeq (sAsg (eVar 1) (gTp 3 (gCn (gNm 4) (gCn (gNm 5) (gCn (gNm 6) gNl))))) k) [some (.p (bkP s.order rows)), some (.p (ddP w x y)), none, none, none, none, none, none, none, none] S) (fun f T => ∃ v S', endF S.length (.ok f T) = .ok v S' ∧ R v S') := fun {R k} hk => by
    have c1 := ev_cpyC (m := eItem (eVar 0) (eC (.int 0))) (ρ := [some (.p (bkP s.order rows)), some (.p (ddP w x y)), none, none, none, none, none, none, none, none]) (S := S) (ev_item (ev_var rfl) ev_c (ixv_p (x := bkP s.order rows) (y := .int 0) (z := .lst (txts s.order)) rfl)) (rd_p _ _)
    have c2 := ev_dictPC lc0 (rd_p _ _) mg0
    rw [show (S ++ [Cell.lst (txts s.order)]).length = S.length + 1 by simp] at c2
    refine ws_seq (ev_parG (ev_acons c1 (ev_acons c2 ev_anil)) rfl (by decide) (ev_gcn (ev_gnm rfl) (ev_gcn (ev_gnm rfl) ev_gnl))) ?_
    exact ws_seq (ρ1 := E none none none) (ev_asg (ev_var rfl) (ev_gtp (xs := [.str w, .str x, .str y]) rfl rfl (ev_gcn (ev_gnm rfl) (ev_gcn (ev_gnm rfl) (ev_gcn (ev_gnm rfl) ev_gnl))))) hk
  suffices hmain : ∃ v S', m__law_after [.p (bkP s.order rows), .p (ddP w x y)] S = .ok v S' ∧ (∃ rows', v = .p (bkP s'.order rows') ∧ S' = S ∧ Rel s' rows') by
    obtain ⟨v, S', e, rows', rfl, rfl, hr⟩ := hmain
    exact ⟨rows', e, hr⟩
  unfold m__law_after b__law_after
  refine ws_mkF (ρ := [some (.p (bkP s.order rows)), some (.p (ddP w x y)), none, none, none, none, none, none, none, none]) rfl rfl (start ?_)
  have fin : ∀ {T : Sto} {o dd : Nat} {a7 a8 a9 : Option Vl} {ord : List (List Nat)} {rows' : List (List (List Nat))}, S.length ≤ o → S.length ≤ dd → o ≠ dd → T.take S.length = S → (T[o]? = some (.lst (txts ord)) ∨ T[o]? = some (.fz (.lst (txts ord)))) → T[dd]? = some (.dct (txts ord) (rows'.map rwP)) → ord = s'.order → Rel s' rows' → WS (sRet (eTup (aCons (eVar 2) (aCons (eVar 3) aNil))) (enA (bkP s.order rows) (ddP w x y) o dd w x y a7 a8 a9) T) (fun f T => ∃ v S', endF S.length (.ok f T) = .ok v S' ∧ ∃ rows', v = .p (bkP s'.order rows') ∧ S' = S ∧ Rel s' rows') := fun {T o dd a7 a8 a9 ord rows'} ho hdd hne ht h2 h3 he hr => by
    obtain ⟨T', e, t2⟩ := ret_bk (ρ := enA (bkP s.order rows) (ddP w x y) o dd w x y a7 a8 a9) ho hdd hne rfl rfl h2 h3
    subst he
    exact ws_of (ev_ret e) ⟨_, _, endF_p _ _ _, rows', rfl, by rw [t2]; exact ht, hr⟩
  cases hd with
  | add h1 h2 h3 =>
    have ap := app_p (z := .str x) FO (by unfold txts; rw [List.length_map]; omega)
    have FD2 : (F.set O (.lst (txts s.order ++ [.str x])))[D]? = some DC := by rw [List.getElem?_set_ne (by show S.length ≠ S.length + 1; omega)]; exact FD
    have an := any_not h2
    have pk := ev_putKS (v := eLst (aCons (eVar 5) aNil)) (o := eVar 3) (i := eVar 5) (ρ := E none none none) (x := rwP [x]) (y := .str x) (ks2 := txts (s.order ++ [x])) (xs2 := (rows ++ [[x]]).map rwP) (ev_lst (ev_acons (ev_var rfl) ev_anil) (frzs_p [_] _) (by simp)) (ev_var rfl) (ev_var rfl) FD2 rfl (by unfold txts; rw [List.length_map]; omega) (by
      unfold dPutK
      rw [an, if_neg Bool.false_ne_true]
      unfold txts
      rw [List.map_append]
      rfl) (by
      unfold dPutV
      rw [an, if_neg Bool.false_ne_true, List.map_append]
      rfl)
    refine ws_seq (ev_sif (yesT rfl) (ifK_t (ev_seq (ev_expr (ev_mut (ev_var rfl) (isL_c FO) (ev_acons (ev_var rfl) ev_anil) ap)) (thn_n pk)))) ?_
    refine ws_seq (no rfl) ?_
    refine ws_seq (no rfl) ?_
    refine ws_seq (no rfl) ?_
    refine fin (ord := s.order ++ [x]) (rows' := rows ++ [[x]]) (Nat.le_refl _) (Nat.le_succ _) (by show S.length ≠ S.length + 1; omega) (by rw [tk (Nat.le_succ _), tk (Nat.le_refl _)]; exact Ft) (.inl ?_) (List.getElem?_set_self (List.getElem?_eq_some_iff.mp FD2).1) rfl (rel_add ok r h2)
    rw [List.getElem?_set_ne (by show S.length + 1 ≠ S.length; omega), List.getElem?_set_self (by rw [fl]; show S.length < _; omega)]
    unfold txts
    rw [List.map_append]
    rfl
  | cut h1 =>
    rename_i k
    have kl := ord_lt ok h1
    have an := any_at kl
    have pk := ev_putKS (v := eLst (aCons (eVar 5) aNil)) (o := eVar 3) (i := eVar 5) (ρ := E none none none) (x := rwP [s.order.getD k []]) (y := .str (s.order.getD k [])) (ks2 := txts s.order) (xs2 := (rows.set k [s.order.getD k []]).map rwP) (ev_lst (ev_acons (ev_var rfl) ev_anil) (frzs_p [_] _) (by simp)) (ev_var rfl) (ev_var rfl) FD rfl (by unfold txts; rw [List.length_map]; omega) (by
      unfold dPutK
      rw [an, if_pos rfl]) (by
      unfold dPutV
      rw [an, if_pos rfl]
      exact dput_at ok.nd kl (by omega))
    refine ws_seq (no rfl) ?_
    refine ws_seq (no rfl) ?_
    refine ws_seq (no rfl) ?_
    refine ws_seq (ev_sif (yesT rfl) (ifK_t pk)) ?_
    refine fin (ord := s.order) (rows' := rows.set k [s.order.getD k []]) (Nat.le_refl _) (Nat.le_succ _) (by show S.length ≠ S.length + 1; omega) (by rw [tk (Nat.le_succ _)]; exact Ft) (.inl ?_) (List.getElem?_set_self (List.getElem?_eq_some_iff.mp FD).1) rfl (rel_cut ok r h1)
    rw [List.getElem?_set_ne (by show S.length + 1 ≠ S.length; omega)]
    exact FO
  | link h1 h2 =>
    rename_i k t
    have mo := rw_ rows t
    have nrD : ∀ {T : Sto} {rws : List (List (List Nat))} {a8 a9 : Option Vl} {i j : Nat} {a7 : Option Vl}, T[D]? = some (.dct (txts s.order) (rws.map rwP)) → rws.length = s.n → i < s.n → (E a7 a8 a9)[j]? = some (some (.p (.str (s.order.getD i [])))) → eItemK (eVar 3) (eVar j) (E a7 a8 a9) T = .ok (.p (rwP (rw_ rws i))) T := fun {T rws a8 a9 i j a7} hT hl hi hj => ev_itemKS (ev_var rfl) (ev_var hj) (look_rows (rd_dct hT) ok.nd (by omega) (by omega))
    let G : Sto := F.set O (.fz (.lst (txts s.order)))
    let L (i : Nat) : List (List (List Nat)) := (List.range s.n).map fun j => if j < i then lnk s rows k t j else rw_ rows j
    have Ll : ∀ i, (L i).length = s.n := fun i => by show ((List.range s.n).map _).length = s.n; rw [List.length_map, List.length_range]
    have L0 : L 0 = rows := by
      show (List.range s.n).map _ = rows
      rw [rows_range rl]
      exact List.map_congr_left fun j hj => by rw [if_neg (Nat.not_lt_zero _), ← rows_range rl]
    have Ln : L s.n = (List.range s.n).map (lnk s rows k t) := List.map_congr_left fun j hj => if_pos (List.mem_range.mp hj)
    have Lat : ∀ {i : Nat}, i < s.n → rw_ (L i) i = rw_ rows i := fun {i} hi => by rw [rw_map hi, if_neg (Nat.lt_irrefl _)]
    have Ls : ∀ {i : Nat}, i < s.n → (L i).set i (lnk s rows k t i) = L (i + 1) := fun {i} hi => by
      apply List.ext_getElem?
      intro j
      rw [List.getElem?_set, Ll]
      by_cases q : i = j
      · subst q
        rw [if_pos rfl, if_pos hi]
        show _ = ((List.range s.n).map _)[i]?
        rw [List.getElem?_map, List.getElem?_range hi]
        show some _ = some (if i < i + 1 then _ else _)
        rw [if_pos (Nat.lt_succ_self _)]
      · rw [if_neg q]
        show ((List.range s.n).map _)[j]? = ((List.range s.n).map _)[j]?
        rw [List.getElem?_map, List.getElem?_map]
        by_cases hj : j < s.n
        · rw [List.getElem?_range hj]
          show some (if j < i then _ else _) = some (if j < i + 1 then _ else _)
          by_cases q2 : j < i
          · rw [if_pos q2, if_pos (by omega)]
          · rw [if_neg q2, if_neg (by omega)]
        · rw [List.getElem?_eq_none (by rw [List.length_range]; omega)]
          rfl
    have Lsame : ∀ {i : Nat}, i < s.n → (rw_ rows i).contains (s.order.getD k []) = false → L (i + 1) = L i := fun {i} hi hc => by
      refine List.map_congr_left fun j hj => ?_
      by_cases q : j < i
      · rw [if_pos q, if_pos (by omega)]
      · by_cases q2 : j = i
        · subst q2
          rw [if_pos (Nat.lt_succ_self _), if_neg (Nat.lt_irrefl _)]
          unfold lnk
          rw [hc, if_neg Bool.false_ne_true]
        · rw [if_neg q, if_neg (by omega)]
    let H (i : Nat) : Sto := G.set D (.dct (txts s.order) ((L i).map rwP))
    have GD : D < G.length := by show S.length + 1 < (F.set O _).length; rw [List.length_set, fl]; omega
    have HD : ∀ i, (H i)[D]? = some (.dct (txts s.order) ((L i).map rwP)) := fun i => List.getElem?_set_self GD
    have H0 : H 0 = G := by
      show G.set D _ = G
      refine set_same ?_
      rw [L0]
      show (F.set O _)[D]? = _
      rw [List.getElem?_set_ne (by show S.length ≠ S.length + 1; omega)]
      exact FD
    have Hs : ∀ i c, (H i).set D c = G.set D c := fun i c => List.set_set ..
    have more : eCall pList (aCons (eItemK (eVar 3) (eVar 6)) aNil) (E none none none) F = .ok (.p (rwP (rw_ rows t))) F := ev_call (ev_acons (nrD (rws := rows) (i := t) (j := 6) FD rl h2 rfl) ev_anil) (rds_c (rd_p _ _) (rds_nil _)) op_lstL
    have loop : WS (sFor (itOf (eVar 2)) (gNm 8) (sIf (tVal (eBin pIn2 (eVar 5) (eItemK (eVar 3) (eVar 8)))) (sPutK (eBin pAdd (eItemK (eVar 3) (eVar 8)) (eLc (itOf (eVar 7)) [9] (gNm 9) (tVal (eBin pNotIn2 (eVar 9) (eItemK (eVar 3) (eVar 8)))) (eVar 9))) (eVar 3) (eVar 8)) sPass) (E (some (.p (rwP (rw_ rows t)))) none none) F) fun f T => ∃ a8, f = .nx (E (some (.p (rwP (rw_ rows t)))) a8 none) ∧ T = H s.n := by
      refine ws_forM (us := List.range s.n) (en := fun i => P.str (s.order.getD i [])) (S1 := G) (fun i ρ T => ∃ a8, ρ = E (some (.p (rwP (rw_ rows t)))) a8 none ∧ T = H i) (ev_itOf (ev_var rfl) (frz_lst FO) (by rw [txts_range s.order lo]; rfl)) ⟨none, rfl, H0.symm⟩ ?_ ?_
      · rintro i i2 ρ T hi2 ⟨a8, rfl, rfl⟩
        have hi : i < s.n := by
          have := (List.getElem?_eq_some_iff.mp hi2).1
          rwa [List.length_range] at this
        rw [List.getElem?_range hi] at hi2
        cases hi2
        let Ei : En := E (some (.p (rwP (rw_ rows t)))) (some (.p (.str (s.order.getD i [])))) none
        have nr : ∀ {a9 : Option Vl}, eItemK (eVar 3) (eVar 8) (E (some (.p (rwP (rw_ rows t)))) (some (.p (.str (s.order.getD i [])))) a9) (H i) = .ok (.p (rwP (rw_ rows i))) (H i) := fun {a9} => by
          have := nrD (a7 := some (.p (rwP (rw_ rows t)))) (a8 := some (.p (.str (s.order.getD i [])))) (a9 := a9) (j := 8) (HD i) (Ll i) hi rfl
          rwa [Lat hi] at this
        have tt : tVal (eBin pIn2 (eVar 5) (eItemK (eVar 3) (eVar 8))) Ei (H i) = .ok ((rw_ rows i).contains (s.order.getD k [])) (H i) := ev_tval (ev_bin (ev_var rfl) nr (rd_p _ _) (rd_p _ _) (pIn2_txts _ _))
        refine ⟨_, _, ev_gnm rfl, ?_⟩
        cases hc : (rw_ rows i).contains (s.order.getD k []) with
        | false =>
          rw [hc] at tt
          exact ws_of (ev_sif tt (ifK_f ev_pass)) ⟨_, .inl rfl, _, rfl, by show H i = G.set D _; rw [Lsame hi hc]⟩
        | true =>
          rw [hc] at tt
          have l1 := limr i hi
          have l2 := limr t h2
          have lc := ev_lc (ys := rw_ rows t) (en := P.str) (f := P.str) (q := fun z => !(rw_ rows i).contains z) (it := itOf (eVar 7)) (vs := [9]) (g := gNm 9) (t := tVal (eBin pNotIn2 (eVar 9) (eItemK (eVar 3) (eVar 8)))) (a := eVar 9) (ρ := Ei) (ρ0 := Ei) (ρ1 := fun z => E (some (.p (rwP (rw_ rows t)))) (some (.p (.str (s.order.getD i [])))) (some (.p (.str z)))) (S := H i) (S1 := H i) (ev_itOf (ev_var rfl) fr_p rfl) (by omega) rfl (fun z _ => ev_gnm rfl) (fun z _ => ev_tval (ev_bin (ev_var rfl) nr (rd_p _ _) (rd_p _ _) op_niSL')) (fun z _ _ => ev_var rfl)
          have lf := List.length_filter_le (fun z => !(rw_ rows i).contains z) (rw_ rows t)
          have ad : pAdd (rwP (rw_ rows i)) (.lst (((rw_ rows t).filter fun z => !(rw_ rows i).contains z).map P.str)) = some (rwP (lnk s rows k t i)) := by
            have := op_addLm (us := rw_ rows i) (ws := (rw_ rows t).filter fun z => !(rw_ rows i).contains z) (f := P.str) (by omega)
            unfold lnk
            rw [hc, if_pos rfl]
            exact this
          have pk := ev_putKS (o := eVar 3) (i := eVar 8) (ρ := Ei) (ks2 := txts s.order) (xs2 := (L (i + 1)).map rwP) (ev_bin (f := pAdd) nr lc (rd_p _ _) (rd_p _ _) ad) (ev_var rfl) (ev_var rfl) (HD i) rfl (by unfold txts; rw [List.length_map]; omega) (by
            unfold dPutK
            rw [any_at (ord_lt ok hi), if_pos rfl]) (by
            unfold dPutV
            rw [any_at (ord_lt ok hi), if_pos rfl, ← Ls hi]
            exact dput_at ok.nd (ord_lt ok hi) (by rw [Ll]; exact lo))
          rw [Hs] at pk
          exact ws_of (ev_sif tt (ifK_t pk)) ⟨_, .inl rfl, _, rfl, rfl⟩
      · rintro ρ T ⟨a8, rfl, rfl⟩
        rw [List.length_range]
        exact ⟨a8, rfl, rfl⟩
    obtain ⟨f, T, el, a8, rfl, rfl⟩ := loop
    refine ws_seq (no rfl) ?_
    refine ws_seq (no rfl) ?_
    refine ws_seq (ev_sif (yesT rfl) (ifK_t (ev_seq (ev_asg more (ev_gnm rfl)) (thn_n el)))) ?_
    refine ws_seq (no rfl) ?_
    refine fin (ord := s.order) (rows' := L s.n) (Nat.le_refl _) (Nat.le_succ _) (by show S.length ≠ S.length + 1; omega) ?_ (.inr ?_) (HD s.n) rfl (by rw [Ln]; exact rel_link ok r h1 h2)
    · show ((F.set O _).set D _).take S.length = S
      rw [tk (Nat.le_succ _), tk (Nat.le_refl _)]
      exact Ft
    · show ((F.set O _).set D _)[S.length]? = _
      rw [List.getElem?_set_ne (by show S.length + 1 ≠ S.length; omega)]
      exact List.getElem?_set_self (by rw [fl]; omega)
  | rem h1 h2 =>
    rename_i k
    have kl := ord_lt ok h1
    have ok' := spRem_ok ok h1 h2
    have lo' : (spRem s k).order.length = s.n - 1 := ok'.len
    let G : Sto := F.set O (.fz (.lst (txts s.order)))
    have gl : G.length = S.length + 2 := by show (F.set O _).length = _; rw [List.length_set, fl]
    have nm : ∀ z ∈ s.order, asc z = true := fun z hz => (ok.nm z hz).asc
    have lc := ev_lcCq (ys := s.order) (en := P.str) (f := P.str) (q := fun z => !(z == s.order.getD k [])) (it := itOf (eVar 2)) (vs := [8]) (g := gNm 8) (t := tVal (eBin pNe (eVar 8) (eVar 5))) (a := eVar 8) (ρ := E none none none) (ρ0 := E none none none) (ρ1 := fun z => E none (some (.p (.str z))) none) (S := F) (S1 := G) (ev_itOf (ev_var rfl) (frz_lst FO) rfl) (by omega) rfl (fun z _ => ev_gnm rfl) (fun z hz => ev_tval (ev_bin (ev_var rfl) (ev_var rfl) (rd_p _ _) (rd_p _ _) (op_neS (nm z hz) (nm _ (mem_getD kl))))) (fun z _ _ => ev_var rfl)
    rw [rem_fil ok h1, gl] at lc
    let E2 : Option Vl → Option Vl → En := enA (bkP s.order rows) (ddP [114, 101, 109, 111, 118, 101] (s.order.getD k []) []) (S.length + 2) D [114, 101, 109, 111, 118, 101] (s.order.getD k []) [] none
    let G1 : Sto := G ++ [.lst (txts (spRem s k).order)]
    have G1n : G1[S.length + 2]? = some (.lst (txts (spRem s k).order)) := by
      show (G ++ [_])[S.length + 2]? = _
      rw [← gl]
      simp
    let G2 : Sto := G1.set (S.length + 2) (.fz (.lst (txts (spRem s k).order)))
    have g2l : G2.length = S.length + 3 := by show (G1.set _ _).length = _; rw [List.length_set]; show (G ++ [_]).length = _; rw [List.length_append, gl]; rfl
    have G2D : G2[D]? = some DC := by
      show (G1.set _ _)[S.length + 1]? = _
      rw [List.getElem?_set_ne (by omega)]
      show (G ++ [_])[S.length + 1]? = _
      rw [List.getElem?_append_left (by omega)]
      show (F.set O _)[S.length + 1]? = _
      rw [List.getElem?_set_ne (by show S.length ≠ S.length + 1; omega)]
      exact FD
    have lc2 := ev_lcm (ys := List.range (s.n - 1)) (en := fun i => P.str ((spRem s k).order.getD i [])) (f := fun i => P.tup [.str ((spRem s k).order.getD i []), rwP (remR s rows k i)]) (it := itOf (eVar 2)) (vs := [8]) (g := gNm 8) (a := eTup (aCons (eVar 8) (aCons (eLc (itOf (eItemK (eVar 3) (eVar 8))) [9] (gNm 9) (tVal (eBin pNe (eVar 9) (eVar 5))) (eVar 9)) aNil))) (ρ := E2 none none) (S := G1) (S1 := G2) (ρ1 := fun i => E2 (some (.p (.str ((spRem s k).order.getD i [])))) none) (ev_itOf (ev_var rfl) (frz_lst G1n) (by rw [txts_range _ lo']; rfl)) (by rw [List.length_range]; omega) rfl (fun i _ => ev_gnm rfl) (fun i hi => by
      have hi := List.mem_range.mp hi
      have hi2 := sk_lt h1 hi
      have l1 := limr _ hi2
      have nr : eItemK (eVar 3) (eVar 8) (E2 (some (.p (.str ((spRem s k).order.getD i [])))) none) G2 = .ok (.p (rwP (rw_ rows (sk k i)))) G2 := by
        rw [rem_ord ok h1]
        exact ev_itemKS (ev_var rfl) (ev_var rfl) (look_rows (rd_dct G2D) ok.nd (by omega) (by omega))
      have li := ev_lc (ys := rw_ rows (sk k i)) (en := P.str) (f := P.str) (q := fun z => !(z == s.order.getD k [])) (it := itOf (eItemK (eVar 3) (eVar 8))) (vs := [9]) (g := gNm 9) (t := tVal (eBin pNe (eVar 9) (eVar 5))) (a := eVar 9) (ρ := E2 (some (.p (.str ((spRem s k).order.getD i [])))) none) (ρ0 := E2 (some (.p (.str ((spRem s k).order.getD i [])))) none) (ρ1 := fun z => E2 (some (.p (.str ((spRem s k).order.getD i [])))) (some (.p (.str z)))) (S := G2) (S1 := G2) (ev_itOf nr fr_p rfl) (by omega) rfl (fun z _ => ev_gnm rfl) (fun z hz => ev_tval (ev_bin (ev_var rfl) (ev_var rfl) (rd_p _ _) (rd_p _ _) (op_neS (ascr _ hi2 z hz) (nm _ (mem_getD kl))))) (fun z _ _ => ev_var rfl)
      exact ev_tup (ev_acons (ev_var rfl) (ev_acons li ev_anil)) (frzs_p [_, _] _) (by simp))
    let R' : List (List (List Nat)) := (List.range (s.n - 1)).map (remR s rows k)
    have mg : mergeP ((List.range (s.n - 1)).map fun i => P.tup [.str ((spRem s k).order.getD i []), rwP (remR s rows k i)]) [] [] = some (txts (spRem s k).order, R'.map rwP) := by
      rw [mergeP_new (g := fun i => (spRem s k).order.getD i []) (v := fun i => rwP (remR s rows k i)) (List.range (s.n - 1)) (by rw [← ord_range _ lo']; exact ok'.nd) (fun i _ z hz => by cases hz), List.nil_append, List.nil_append, ← txts_range _ lo']
      show some (_, _) = some (_, List.map rwP (List.map _ _))
      rw [List.map_map]
      rfl
    have dc := ev_dictPC lc2 (rd_p _ _) mg
    rw [g2l] at dc
    refine ws_seq (no rfl) ?_
    refine ws_seq (ρ1 := enA (bkP s.order rows) (ddP [114, 101, 109, 111, 118, 101] (s.order.getD k []) []) (S.length + 2) (S.length + 3) [114, 101, 109, 111, 118, 101] (s.order.getD k []) [] none none none) (ev_sif (yesT rfl) (ifK_t (ev_seq (ev_asg lc (ev_gnm (ρ1 := E2 none none) rfl)) (thn_n (ev_asg dc (ev_gnm rfl)))))) ?_
    refine ws_seq (noG rfl) ?_
    refine ws_seq (noG rfl) ?_
    refine fin (ord := (spRem s k).order) (rows' := R') (by omega) (by omega) (by omega) ?_ (.inr ?_) ?_ rfl (rel_rem ok r h1)
    · show (G2 ++ [_]).take S.length = S
      rw [List.take_append_of_le_length (by omega)]
      show (G1.set _ _).take S.length = S
      rw [tk (by omega)]
      show (G ++ [_]).take S.length = S
      rw [List.take_append_of_le_length (by omega)]
      show (F.set O _).take S.length = S
      rw [tk (Nat.le_refl _)]
      exact Ft
    · show (G2 ++ [_])[S.length + 2]? = _
      rw [List.getElem?_append_left (by omega)]
      exact List.getElem?_set_self (List.getElem?_eq_some_iff.mp G1n).1
    · show (G2 ++ [_])[S.length + 3]? = _
      rw [← g2l]
      simp
end
end Law

namespace Law
open PySem L2 Mir Pl
abbrev BK := Sp3 × List (List (List Nat))
abbrev BK.P (q : BK) : P := bkP q.1.order q.2
structure Gd (q : BK) : Prop where
  ok : q.1.ok
  rel : Rel q.1 q.2
  n7 : q.1.n ≤ 7
abbrev chP (st : List BK) : Cell := DrC (st.map (·.1))
abbrev paP (st : List BK) : List P := st.reverse.map BK.P
structure Sh (d pa : Nat) (st : List BK) (T : Sto) : Prop where
  dr : T[d]? = some (chP st)
  pa : T[pa]? = some (.lst (paP st))
theorem Sh.mx {k d pa : Nat} {st : List BK} {T T' : Sto} (h : Sh d pa st T) (hd : d ≠ k) (hp : pa ≠ k) (u : Mx k T T') : Sh d pa st T' := ⟨by rw [u.oth d hd]; exact h.dr, by rw [u.oth pa hp]; exact h.pa⟩
theorem paP_cons (q : BK) (st : List BK) : paP (q :: st) = paP st ++ [q.P] := by
  show (q :: st).reverse.map _ = _
  rw [List.reverse_cons, List.map_append]
  rfl
theorem paP_len (st : List BK) : (paP st).length = st.length := by
  show (st.reverse.map _).length = _
  rw [List.length_map, List.length_reverse]
section
variable {d pa : Nat} {q : BK} {st : List BK} {T : Sto}
theorem last_ok (h : T[pa]? = some (.lst (paP (q :: st)))) : ixV (nv T (.c pa)) (.p (.int (-1))) T = .ok (.p q.P) T := ixv_l h (by rw [paP_cons]; exact at_last)
theorem ev_last (h : T[pa]? = some (.lst (paP (q :: st)))) {ρ : En} {i : Nat} (hi : ρ[i]? = some (some (.c pa))) : eItem (eVar i) (eUn pNeg (eC (.int 1))) ρ T = .ok (.p q.P) T := ev_item (ev_var hi) (ev_un ev_c (rd_p _ _) op_neg1) (last_ok h)
theorem sh_tells (g : Gd q) (h : Sh d pa (q :: st) T) {ρ : En} {i j : Nat} (hi : ρ[i]? = some (some (.c d))) (hj : ρ[j]? = some (some (.c pa))) : eFn m__law_draft_tells (aCons (eVar i) (aCons (eVar j) aNil)) ρ T = .ok (.p (.bl true)) T :=
  ev_fn (ev_acons (ev_var hi) (ev_acons (ev_var hj) ev_anil)) (tells_ok (hs := st.map (·.1)) h.dr g.ok g.rel (last_ok h.pa) (rd_lst h.pa) (by rw [paP_len, List.length_cons, List.length_map]))
theorem sh_app (h : Sh d pa (q :: st) T) (hne : d ≠ pa) {q' : BK} (hl : st.length < 90000) : fApp (.c pa) [.p q'.P] T = .ok (.p .non) (T.set pa (.lst (paP (q' :: q :: st)))) := by
  have := app_p (z := q'.P) h.pa (by rw [paP_len, List.length_cons]; omega)
  rw [this, paP_cons q']
end
end Law

namespace Law
open PySem L2 Mir Pl
theorem right_ok {S : Sto} {k : Nat} (hu : Mug S k) : ∃ S', m__law_right [.c k] S = .ok (.p (.bl true)) S' := by
  obtain ⟨r, S1, e1, r0, r1, u1⟩ := gulp_ok (n := 5) hu (by decide) (by decide)
  obtain ⟨r, rfl⟩ := Int.eq_ofNat_of_zero_le r0
  obtain ⟨ts, S2, e2, tg, u2⟩ := tags_ok u1.mug (m := 5) (by decide)
  let n : Nat := 1 + r
  have hn : n ≤ 5 := by show 1 + r ≤ 5; omega
  obtain ⟨w, S3, e3, nw, u3⟩ := near_drawn (n := n) u2.mug (by show 0 < 1 + r; omega) (by omega)
  have hl : n ≤ ts.length := by rw [tg.len]; exact hn
  have ok0 : Spc n (ts.take n) w := ⟨by rw [List.length_take]; omega, tg.nd.sublist (List.take_sublist _ _), fun x hx => poolT_ok x (tg.pool x (List.mem_of_mem_take hx)), nw, by show 0 < 1 + r; omega, by omega⟩
  let s0 : Sp3 := ⟨n, ts.take n, w⟩
  let b0 : BK := (s0, rows0 ts w)
  have g0 : Gd b0 := ⟨ok0, rel0 ok0, by show n ≤ 7; omega⟩
  have hk3 := mug_lt u3.mug
  let D0 : Cell := DrC [s0]
  let B : Sto := S3 ++ [D0] ++ [D0] ++ [.lst [b0.P]]
  let d1 : Nat := S3.length
  let d2 : Nat := (S3 ++ [D0]).length
  let pa : Nat := (S3 ++ [D0] ++ [D0]).length
  have hd2 : d2 = d1 + 1 := by show (S3 ++ [D0]).length = S3.length + 1; simp
  have hpa : pa = d1 + 2 := by show (S3 ++ [D0] ++ [D0]).length = S3.length + 2; simp
  have hBl : B.length = d1 + 3 := by show (S3 ++ [D0] ++ [D0] ++ [Cell.lst [b0.P]]).length = S3.length + 3; simp
  have a1 : B[d1]? = some D0 := by show (S3 ++ [D0] ++ [D0] ++ [Cell.lst [b0.P]])[S3.length]? = _; simp
  have a2 : B[d2]? = some D0 := by
    show (S3 ++ [D0] ++ [D0] ++ [Cell.lst [b0.P]])[(S3 ++ [D0]).length]? = _
    rw [List.getElem?_append_left (by simp)]
    simp
  have a3 : B[pa]? = some (.lst [b0.P]) := by show (S3 ++ [D0] ++ [D0] ++ [Cell.lst [b0.P]])[(S3 ++ [D0] ++ [D0]).length]? = _; simp
  have muB : Mug B k := by
    have := mug_app u3.mug ([D0] ++ [D0] ++ [Cell.lst [b0.P]])
    rwa [← List.append_assoc, ← List.append_assoc] at this
  have kd1 : d1 ≠ k := by show S3.length ≠ k; omega
  have kd2 : d2 ≠ k := by omega
  have kpa : pa ≠ k := by omega
  let wh : P := .lst [b0.P]
  let E (a4 a10 : Option Vl) : En := [some (.c k), some (.p (nearP w)), some (.p s0.P), some (.p wh), a4, some (.p (.int (n : Int))), some (.p (.lst (txts ts))), some (.c d1), some (.c d2), some (.c pa), a10]
  -- what holds of a store on the way
  let I (pre : List BK) (T : Sto) : Prop := T.length = B.length ∧ Mug T k ∧ T[d2]? = some D0 ∧ Sh d1 pa (pre ++ [b0]) T ∧ ∀ q ∈ pre, Gd q
  have top : ∀ (pre : List BK), (∀ q ∈ pre, Gd q) → ∃ q st, pre ++ [b0] = q :: st ∧ Gd q ∧ st.length = pre.length := fun pre h => by
    cases pre with
    | nil => exact ⟨b0, [], rfl, g0, rfl⟩
    | cons q pre => exact ⟨q, pre ++ [b0], rfl, h q List.mem_cons_self, by simp⟩
  have tb : ∀ {T : Sto} {ρ : En}, T[d2]? = some D0 → ρ[8]? = some (some (.c d2)) → ρ[3]? = some (some (.p wh)) → eFn m__law_draft_tells (aCons (eVar 8) (aCons (eVar 3) aNil)) ρ T = .ok (.p (.bl true)) T := fun {T ρ} h h8 h3 => ev_fn (ev_acons (ev_var h8) (ev_acons (ev_var h3) ev_anil)) (tells_ok (s := s0) (hs := []) h ok0 (rel0 ok0) (ixv_p (x := wh) (y := .int (-1)) (at_last (xs := []) (z := b0.P))) (rd_p _ _) rfl)
  have td : ∀ {pre : List BK} {T : Sto} {ρ : En}, (∀ q ∈ pre, Gd q) → Sh d1 pa (pre ++ [b0]) T → ρ[7]? = some (some (.c d1)) → ρ[9]? = some (some (.c pa)) → eFn m__law_draft_tells (aCons (eVar 7) (aCons (eVar 9) aNil)) ρ T = .ok (.p (.bl true)) T := fun {pre T ρ} hg h h7 h9 => by
    obtain ⟨q, st, e, gq, _⟩ := top pre hg
    rw [e] at h
    exact sh_tells gq h h7 h9
  have body : WS (b__law_right [some (.c k), none, none, none, none, none, none, none, none, none, none] S) fun fl T => fl = .rt (.p (.bl true)) := by
    unfold b__law_right
    refine ws_seq (ev_par (ev_acons (ev_bin ev_c (ev_fn (ev_acons (ev_var rfl) (ev_acons ev_c ev_anil)) e1) (rd_p _ _) (rd_p _ _) op_add1N) (ev_acons (ev_fn (ev_acons (ev_var rfl) (ev_acons ev_c ev_anil)) e2) ev_anil)) rfl) ?_
    refine ws_seq (ev_asg (ev_fn (ev_acons (ev_var rfl) (ev_acons (ev_var rfl) ev_anil)) e3) (ev_gnm rfl)) ?_
    refine ws_seq (ev_asg (ev_make (ev_acons (ev_fn (ev_acons (ev_var rfl) (ev_acons (ev_var rfl) ev_anil)) (space_text_ok hl ok0 S3)) ev_anil) (make_ok ok0 S3)) (ev_gnm rfl)) ?_
    refine ws_seq (ρ1 := [some (.c k), some (.p (nearP w)), some (.p s0.P), none, none, some (.p (.int (n : Int))), some (.p (.lst (txts ts))), some (.c d1), some (.c d2), some (.c pa), none]) (ev_par3 (ev_acons (ev_make (ev_acons (ev_var rfl) ev_anil) (dr_make (s := s0) S3)) (ev_acons (ev_make (ev_acons (ev_var rfl) ev_anil) (dr_make (s := s0) (S3 ++ [D0]))) (ev_acons (ev_lstC (ev_acons (ev_fn (ev_acons (ev_var rfl) (ev_acons (ev_var rfl) ev_anil)) (state_ok hl ok0 _)) ev_anil) (frzs_p [_] _) (by simp)) ev_anil))) rfl) ?_
    refine ws_seq (ρ1 := E none none) (S1 := B) (ev_asg (ev_call (z := wh) (ev_acons (ev_var (i := 9) rfl) ev_anil) (rds_c (rd_lst a3) (rds_nil _)) op_lstL) (ev_gnm rfl)) ?_
    have sh0 : Sh d1 pa ([] ++ [b0]) B := ⟨a1, a3⟩
    refine ws_seq (ev_sif (ev_tnot (ev_tval (td (pre := []) (fun q hq => by cases hq) sh0 rfl rfl)) rfl) (ifK_f ev_pass)) ?_
    -- the changes
    refine ws_seqW (ws_mono (ws_rng (n := 12) (Q := fun fl T => ∃ pre a4 a10, fl = .nx (E a4 a10) ∧ pre.length = 12 ∧ I pre T) (fun i ρ T => ∃ pre a4 a10, ρ = E a4 a10 ∧ pre.length = i ∧ I pre T) (ev_range1 (n := 12) ev_c (by decide)) ⟨[], none, none, rfl, rfl, rfl, muB, a2, sh0, fun q hq => by cases hq⟩ ?_ ?_) ?_)
    · rintro i ρ T hi ⟨pre, a4, a10, rfl, hpl, hTl, hmu, hb, hsh, hg⟩
      obtain ⟨q, st, eq, gq, hst⟩ := top pre hg
      rw [eq] at hsh
      refine ⟨_, _, ev_gnm rfl, ?_⟩
      obtain ⟨dw, dx, dy, s', T1, e4, hd, u4⟩ := deed_ok gq.ok (rows := q.2) hmu
      refine ws_seq (ev_asg (ev_fn (ev_acons (ev_var rfl) (ev_acons (ev_last hsh.pa rfl) ev_anil)) e4) (ev_gnm rfl)) ?_
      have sh1 := hsh.mx kd1 kpa u4
      obtain ⟨rows', e5, hr'⟩ := after_ok gq.ok gq.rel gq.n7 hd T1
      let q' : BK := (s', rows')
      have gq' : Gd q' := ⟨hd.ok gq.ok, hr', hd.n7 gq.n7⟩
      have hdl : d1 < T1.length := by rw [u4.len, hTl, hBl]; omega
      have hpl1 : pa < T1.length := by rw [u4.len, hTl, hBl]; omega
      have hne : d1 ≠ pa := by omega
      refine ws_seq (ev_expr (ev_mut (ev_var rfl) (isL_c sh1.pa) (ev_acons (ev_fn (ev_acons (ev_last sh1.pa rfl) (ev_acons (ev_var rfl) ev_anil)) e5) ev_anil) (sh_app (q' := q') sh1 hne (by omega)))) ?_
      let T2 : Sto := T1.set pa (.lst (paP (q' :: q :: st)))
      have mu2 : Mug T2 k := by
        obtain ⟨a, b, e, z⟩ := u4.mug
        exact ⟨a, b, by show (T1.set pa _)[k]? = _; rw [List.getElem?_set_ne kpa]; exact e, z⟩
      have dr2 : T2[d1]? = some (chP (q :: st)) := by show (T1.set pa _)[d1]? = _; rw [List.getElem?_set_ne (Ne.symm hne)]; exact sh1.dr
      obtain ⟨m, T3, e6, m0, m1, u6⟩ := gulp_ok (n := 2) mu2 (by decide) (by decide)
      obtain ⟨m, rfl⟩ := Int.eq_ofNat_of_zero_le m0
      have dr3 : T3[d1]? = some (chP (q :: st)) := by rw [u6.oth d1 kd1]; exact dr2
      have did := did_ok (hs := st.map (·.1)) gq.ok gq.n7 hd dr3 (m == 0)
      let T4 : Sto := T3.set d1 (chP (q' :: q :: st))
      have t2l : T2.length = T1.length := List.length_set
      have sh4 : Sh d1 pa ((q' :: pre) ++ [b0]) T4 := by
        show Sh d1 pa (q' :: (pre ++ [b0])) T4
        rw [eq]
        refine ⟨List.getElem?_set_self (by rw [u6.len, t2l]; exact hdl), ?_⟩
        show (T3.set d1 _)[pa]? = _
        rw [List.getElem?_set_ne hne, u6.oth pa kpa]
        exact List.getElem?_set_self hpl1
      have hg4 : ∀ z ∈ q' :: pre, Gd z := fun z hz => by
        rcases List.mem_cons.mp hz with rfl | hz
        · exact gq'
        · exact hg z hz
      have b4 : T4[d2]? = some D0 := by
        show (T3.set d1 _)[d2]? = _
        rw [List.getElem?_set_ne (by omega), u6.oth d2 kd2]
        show (T1.set pa _)[d2]? = _
        rw [List.getElem?_set_ne (by omega), u4.oth d2 kd2]
        exact hb
      have mu4 : Mug T4 k := by
        obtain ⟨a, b, e, z⟩ := u6.mug
        exact ⟨a, b, by show (T3.set d1 _)[k]? = _; rw [List.getElem?_set_ne kd1]; exact e, z⟩
      have t4l : T4.length = B.length := by show (T3.set d1 _).length = _; rw [List.length_set, u6.len, t2l, u4.len, hTl]
      refine ws_seq (ev_sif (ev_tor (q := false) (ev_tval (ev_notN (ev_fn (ev_acons (ev_var rfl) (ev_acons (ev_var rfl) (ev_acons (ev_bin (ev_fn (ev_acons (ev_var rfl) (ev_acons ev_c ev_anil)) e6) ev_c (rd_p _ _) (rd_p _ _) op_eqN0) ev_anil))) did) rfl)) (orK_f (ev_tnot (ev_tval (td hg4 sh4 rfl rfl)) rfl))) (ifK_f ev_pass)) ?_
      have ne : tVal (eNeM "Space" m_Space___eq__ (eMake false "Space" m_Space___init__ (aCons (eProp "Space" m_Space_text (eProp "Draft" m_Draft_space (eVar 7))) aNil)) (eProp "Draft" m_Draft_space (eVar 7))) (E (some (.p (.int (i : Int)))) (some (.p (ddP dw dx dy)))) T4 = .ok false T4 := ev_tval (q := false) (ev_neL (q := true) (ev_make (ev_acons (x_text (s := s') (hs := (q :: st).map (·.1)) (List.getElem?_set_self (by rw [u6.len, t2l]; exact hdl)) rfl) ev_anil) (make_ok (hd.ok gq.ok) T4)) (dr_prop (s := s') (hs := (q :: st).map (·.1)) rfl (List.getElem?_set_self (by rw [u6.len, t2l]; exact hdl))) (by rw [nv_p]; rfl) (by rw [nv_p]; rfl) (spc_eqD (hd.ok gq.ok) T4))
      refine ws_of (ev_sif (ev_tor ne (orK_f (ev_tnot (ev_tval (tb b4 rfl rfl)) rfl))) (ifK_f ev_pass)) ?_
      exact ⟨_, .inl rfl, q' :: pre, _, _, rfl, by rw [List.length_cons, hpl], t4l, mu4, b4, sh4, hg4⟩
    · rintro ρ T ⟨pre, a4, a10, rfl, hpl, hI⟩
      exact ⟨pre, a4, a10, rfl, hpl, hI⟩
    · rintro fl T ⟨pre, a4, a10, rfl, hpl, hI⟩
      refine ⟨_, rfl, ?_⟩
      -- the steps back
      refine ws_seqW (ws_mono (ws_rng (n := 12) (Q := fun fl T => ∃ pre a4, fl = .nx (E a4 a10) ∧ pre.length = 0 ∧ I pre T) (fun i ρ T => ∃ pre a4, ρ = E a4 a10 ∧ pre.length + i = 12 ∧ I pre T) (ev_range1 (n := 12) ev_c (by decide)) ⟨pre, a4, rfl, by omega, hI⟩ ?_ ?_) ?_)
      · rintro i ρ T hi ⟨pre, a4, rfl, hpl, hTl, hmu, hb, hsh, hg⟩
        cases pre with
        | nil => rw [List.length_nil] at hpl; omega
        | cons q pre =>
          obtain ⟨q2, st, eq, gq2, hst⟩ := top pre fun z hz => hg z (List.mem_cons_of_mem _ hz)
          have hne : d1 ≠ pa := by omega
          have hdl : d1 < T.length := by rw [hTl, hBl]; omega
          have hpl1 : pa < T.length := by rw [hTl, hBl]; omega
          have hsh' : Sh d1 pa (q :: q2 :: st) T := by
            have h : Sh d1 pa (q :: (pre ++ [b0])) T := hsh
            rwa [eq] at h
          have pp : T[pa]? = some (.lst (paP (q2 :: st) ++ [q.P])) := by rw [← paP_cons]; exact hsh'.pa
          refine ⟨_, _, ev_gnm rfl, ?_⟩
          refine ws_seq (ev_expr (ev_mut (ev_var rfl) (isL_c pp) ev_anil (pop_l pp))) ?_
          let T1 : Sto := T.set pa (.lst (paP (q2 :: st)))
          have dr1 : T1[d1]? = some (DrC (q.1 :: q2.1 :: st.map (·.1))) := by show (T.set pa _)[d1]? = _; rw [List.getElem?_set_ne (Ne.symm hne)]; exact hsh'.dr
          have un := dr_undo dr1
          let T2 : Sto := T1.set d1 (chP (q2 :: st))
          have t1l : T1.length = T.length := List.length_set
          have sh2 : Sh d1 pa (pre ++ [b0]) T2 := by
            rw [eq]
            refine ⟨List.getElem?_set_self (by rw [t1l]; exact hdl), ?_⟩
            show (T1.set d1 _)[pa]? = _
            rw [List.getElem?_set_ne hne]
            exact List.getElem?_set_self hpl1
          have hg2 : ∀ z ∈ pre, Gd z := fun z hz => hg z (List.mem_cons_of_mem _ hz)
          refine ws_of (ev_sif (ev_tor (q := false) (ev_tval (ev_notN (ev_meth (ev_var rfl) (isO_dr dr1 (by decide)) ev_anil un) rfl)) (orK_f (ev_tnot (ev_tval (td hg2 sh2 rfl rfl)) rfl))) (ifK_f ev_pass)) ?_
          refine ⟨_, .inl rfl, pre, _, rfl, by rw [List.length_cons] at hpl; omega, ?_, ?_, ?_, sh2, hg2⟩
          · show (T1.set d1 _).length = _
            rw [List.length_set, t1l, hTl]
          · obtain ⟨a, b, e, z⟩ := hmu
            exact ⟨a, b, by show ((T.set pa _).set d1 _)[k]? = _; rw [List.getElem?_set_ne kd1, List.getElem?_set_ne kpa]; exact e, z⟩
          · show ((T.set pa _).set d1 _)[d2]? = _
            rw [List.getElem?_set_ne (by omega), List.getElem?_set_ne (by omega)]
            exact hb
      · rintro ρ T ⟨pre, a4, rfl, hpl, hI⟩
        exact ⟨pre, a4, rfl, by omega, hI⟩
      · rintro fl T ⟨pre, a4, rfl, hpl, hI⟩
        refine ⟨_, rfl, ?_⟩
        have : pre = [] := List.eq_nil_of_length_eq_zero hpl
        subst this
        obtain ⟨_, _, _, hsh, _⟩ := hI
        have hd : T[d1]? = some (DrC [s0]) := hsh.dr
        exact ws_of (ev_ret (ev_eqL (dr_prop (s := s0) (hs := []) rfl hd) (ev_var rfl) (by rw [nv_p]; rfl) (by rw [nv_p]; rfl) (spc_eqD ok0 T))) rfl
  obtain ⟨fl, T, e', rfl⟩ := body
  refine ⟨T.take S.length, ?_⟩
  unfold m__law_right
  refine ev_mkF rfl rfl e' ?_
  rw [endF_p]
end Law

namespace Law
open PySem L2 Mir Pl
theorem all_ok (ns : List Int) (hn : ns.length ≤ 63) : ∃ S', m_law [.p (.scr (ns.map Mir.P.int))] [] = .ok (.p (.bl true)) S' := by
  unfold m_law b_law
  exact endMT (K := 5) (T := []) (by decide) (by decide) (fun S k hu _ _ _ => by obtain ⟨S', e⟩ := right_ok hu; exact ⟨S', e, rfl⟩) (fun t => mug_ok hn _) rfl
end Law
open PySem PySem.W PyProof.Rows
theorem PySem.Challenge.cw_closedinner_k52_whole_drafts_through_cha_holds : PySem.Challenge.rw_closedinner_k52_whole_drafts_through_cha.Holds := by
  exact law_of Law.all_ok

