import PyProof.Rows.All
import Wide.All
import OpenK.AllK
import Wide.FinOn
import KE.KStateDown
import KE.KeyNested
import KE.KDictCopyH
import HandS.ForMost
import HandS.Exc
import HandS.TryOnly
import HandS.ExcOwn
import HandS.Lambda
import HandS.WordsExc
import HandS.Evl
import HandS.Defaults
import HandS.Head0
import HandS.Head1
import HandS.Head2
import HandS.HeadEnd
import HandS.HeadHook1
import HandS.HeadHook2
import HandS.HeadHook3
import HandS.HeadHook4
import HandS.TupAny
import HandS.Style
import HandS.SortInts
import HandS.RaiseMore
import HandS.WideBits
import HandS.SetFor
import HandS.ReplaceList
import HandS.CallSlots
import HandS.Property
import HandS.IsInst
import HandS.Ends
import PyProof.ReprRoads
import HandS.Dict
import HandS.Deep
import HandS.Conv
import HandS.FStr
import HandS.Star
import KE.GoesMore
import HandS.Strs
import HandS.Replace
import KE.GoesZip
import PyProof.WalkInts
import HandS.NoneIn
import PyProof.InstNe
import KE.SortData
import KE.KCallOwn
import KE.KIsAll
import HandS.SetKeys
import HandS.ExcInit
import HandS.ExcField
import HandS.ExcIs
import HandS.TryMany
import KE.KExcInit
import PyProof.ExcBaseAll.LookupError
import PyProof.ExcBaseAll.ArithmeticError
import PyProof.ExcBaseAll.ValueError
import HandS.HotCalls
import PyProof.StrOps2
import HandS.DictSubView
import PyProof.SeqIndex
import PyProof.InstEq
import HandS.Records
import HandS.ReplaceLit
import PyProof.ToksMono
import PyProof.NsMap
import HandS.DictComp
import KE.KEqNest
import KE.IntBitsLaws
import KE.OsArith
import KE.BitLaws
import PyProof.StrLawsIn
import PySem.Challenge.RW_closedinner_k37_least_and_lists_refused
set_option Elab.async false
set_option linter.all false
set_option maxRecDepth 100000
set_option maxHeartbeats 0

namespace Mir
open PySem L2

inductive P where
  | non | bl (b : Bool) | int (i : Int) | str (x : List Nat)
  | tup (xs : List P) | lst (xs : List P)
  | dct (ks vs : List P)
  | obj (c : Str) (ns : List Str) (xs : List P)
  | ty (n : String) | glo (x : Str)
  | raw (a : Addr)
  | rwp (y z : List Nat)
  | scr (xs : List P)
inductive Vl where
  | p (x : P) | c (k : Nat)
def lamC (K : PySem.W.Frag) (x : Str) : Addr := match K.lookup (He.ga K x) with
  | some ⟨_, _, .func fd, _⟩ => (match fd.code with
    | .ref c => c
    | _ => 0)
  | _ => 0
def lamT (K : PySem.W.Frag) (x : Str) : Addr := He.tabOf K (lamC K x)
inductive Cell where
  | lst (xs : List P)
  | lsv (xs : List Vl)
  | dct (ks vs : List P)
  | ins (c : Str) (ns : List Str) (xs : List Vl)
  | fz (x : P) | res
  | tup (xs : List P)
  | dcT (ks : List (List (Int ⊕ List Nat))) (xs : List P)
  | dcN (η : NestedKey → Int) (ks xs : List P)
  | tbl (x q : Str)
  | dvs (xs : List P)
  | tblC (x q : Str) (c : Addr)
  | tpz (xs : List P)
abbrev Sto := List Cell
abbrev XD := Option (List Str × List P)
inductive Res (A : Type) where
  | ok (a : A) (S : Sto)
  | exc (c : Str) (d : XD) (S : Sto)
  | bad
def Res.bind {A B : Type} (r : Res A) (f : A → Sto → Res B) : Res B := match r with
  | .ok a S => f a S
  | .exc c d S => .exc c d S
  | .bad => .bad
abbrev En := List (Option Vl)
abbrev ME := En → Sto → Res Vl

def strOf (x : List Nat) : Str := ⟨x.toArray⟩
def kk : Int ⊕ List Nat → Key
  | .inl i => .inl i
  | .inr x => .inr (strOf x)

mutual
def nkOf : P → Option NestedKey
  | .non => some .none
  | .bl b => some (.num (if b then 1 else 0))
  | .int i => some (.num i)
  | .str x => some (.text (strOf x))
  | .tup xs => (match nkL xs with
    | some ks => some (.tup ks)
    | none => none)
  | _ => none
def nkL : List P → Option (List NestedKey)
  | [] => some []
  | x :: xs => (match nkOf x, nkL xs with
    | some k, some ks => some (k :: ks)
    | _, _ => none)
end
def DNo (η : NestedKey → Int) (a : Addr) (es : List (NestedKey × Addr × V)) : HO := .ext fun h => es.length ≤ sizeLine ∧ (a == sysModules) = false ∧ ∃ xs : List (NestedKey × Addr × Value),
  Paired (fun (p : NestedKey × Addr × V) (q : NestedKey × Addr × Value) => p.1 = q.1 ∧ p.2.1 = q.2.1 ∧ RelV p.2.2 q.2.2) es xs ∧
  ∃ ds ep, h.DictRaw a ds ep ∧ ds.toList = xs.map (fun x => (⟨η x.1, .ref x.2.1, x.2.2⟩ : DictEntry)) ∧ (xs.map (·.1)).Nodup ∧ ∀ x ∈ xs, x.1.depth ≤ 8
def RawT (K : PySem.W.Frag) (H : Hp) (a : Addr) (y z : Str) (t u : Tok) : Prop :=
  (∃ (o : Obj) (n : Nat), (H a = some (.frz o (.tup [.str y, .str z])) ∨ K.lookup a = some o) ∧ o.cls = .type "tuple" ∧ o.data = .seq #[.str y t, .str z u] n) ∧ t ≠ 0 ∧ u ≠ 0 ∧ t ≠ u ∧ (y == z) = false
mutual
def Rep (K : PySem.W.Frag) (F : Hp) : P → V → Prop
  | .non, v => v = .non
  | .bl b, v => v = .bl b
  | .int i, v => v = .int i
  | .str x, v => v = .str (strOf x)
  | .tup xs, v => ∃ a vs, v = .ref a ∧ SqT K F a vs ∧ RepL K F xs vs
  | .lst xs, v => ∃ a vs, v = .ref a ∧ F a = some (.lst vs) ∧ RepL K F xs vs
  | .scr xs, v => ∃ a vs, v = .ref a ∧ SqL K F a vs ∧ RepL K F xs vs
  | .dct ks xs, v => ∃ a kvs, v = .ref a ∧ F a = some (.dK kvs) ∧ RepL K F ks (kvs.map fun q => kV q.1) ∧ RepL K F xs (kvs.map (·.2))
  | .obj c ns xs, v => ∃ a dx gs, v = .ref a ∧ F a = some (.ins (He.ga K c) dx gs) ∧ gs.map (·.1) = ns ∧ RepL K F xs (gs.map (·.2))
  | .ty n, v => v = .ty n
  | .glo x, v => v = .ref (He.ga K x)
  | .raw a, v => v = .ref a
  | .rwp y z, v => ∃ a t u, v = .ref a ∧ RawT K F a (strOf y) (strOf z) t u
def RepL (K : PySem.W.Frag) (F : Hp) : List P → List V → Prop
  | [], vs => vs = []
  | x :: xs, vs => ∃ v r, vs = v :: r ∧ Rep K F x v ∧ RepL K F xs r
end

section
variable {K : PySem.W.Frag} {F F' : Hp}
theorem sqt_mono {a : Addr} {vs : List V} (e : Same F F') (h : SqT K F a vs) : SqT K F' a vs := Evl.ex_t e h
theorem sql_mono {a : Addr} {vs : List V} (e : Same F F') (h : SqL K F a vs) : SqL K F' a vs := Evl.ex_l e h
mutual
theorem Rep.mono (e : Same F F') : ∀ {x : P} {v : V}, Rep K F x v → Rep K F' x v
  | .non, _, h => h
  | .bl _, _, h => h
  | .int _, _, h => h
  | .str _, _, h => h
  | .tup xs, v, h => by
    obtain ⟨a, vs, e1, h1, h2⟩ := h
    exact ⟨a, vs, e1, sqt_mono e h1, RepL.mono e h2⟩
  | .lst xs, v, h => by
    obtain ⟨a, vs, e1, h1, h2⟩ := h
    exact ⟨a, vs, e1, e _ _ h1, RepL.mono e h2⟩
  | .scr xs, v, h => by
    obtain ⟨a, vs, e1, h1, h2⟩ := h
    exact ⟨a, vs, e1, sql_mono e h1, RepL.mono e h2⟩
  | .dct ks xs, v, h => by
    obtain ⟨a, kvs, e1, h1, h2, h3⟩ := h
    exact ⟨a, kvs, e1, e _ _ h1, RepL.mono e h2, RepL.mono e h3⟩
  | .obj c ns xs, v, h => by
    obtain ⟨a, dx, gs, e1, h1, h2, h3⟩ := h
    exact ⟨a, dx, gs, e1, e _ _ h1, h2, RepL.mono e h3⟩
  | .ty _, _, h => h
  | .glo _, _, h => h
  | .raw _, _, h => h
  | .rwp y z, v, h => by
    obtain ⟨a, t, u, e1, ⟨o, n, h1, h2, h3⟩, h4⟩ := h
    exact ⟨a, t, u, e1, ⟨o, n, h1.imp (e _ _) id, h2, h3⟩, h4⟩
theorem RepL.mono (e : Same F F') : ∀ {xs : List P} {vs : List V}, RepL K F xs vs → RepL K F' xs vs
  | [], _, h => h
  | x :: xs, vs, h => by
    obtain ⟨v, r, e1, h1, h2⟩ := h
    exact ⟨v, r, e1, Rep.mono e h1, RepL.mono e h2⟩
end
theorem RepL.length : ∀ {xs : List P} {vs : List V}, RepL K F xs vs → vs.length = xs.length
  | [], _, h => by
    have h' : _ = _ := h
    rw [h']
    rfl
  | x :: xs, vs, h => by
    obtain ⟨v, r, e1, h1, h2⟩ := h
    rw [e1, List.length_cons, List.length_cons, RepL.length h2]
theorem RepL.get : ∀ {xs : List P} {vs : List V} {i : Nat} {x : P}, RepL K F xs vs → xs[i]? = some x → ∃ v, vs[i]? = some v ∧ Rep K F x v
  | [], _, _, _, h, e => by simp at e
  | y :: xs, vs, 0, x, h, e => by
    obtain ⟨v, r, e1, h1, h2⟩ := h
    have : y = x := by simpa using e
    subst this
    subst e1
    exact ⟨v, rfl, h1⟩
  | y :: xs, vs, i + 1, x, h, e => by
    obtain ⟨v, r, e1, h1, h2⟩ := h
    subst e1
    obtain ⟨u, hu, hr⟩ := RepL.get (i := i) h2 (by simpa using e)
    exact ⟨u, by simpa using hu, hr⟩
theorem RepL.getV : ∀ {xs : List P} {vs : List V} {i : Nat} {v : V}, RepL K F xs vs → vs[i]? = some v → ∃ x, xs[i]? = some x ∧ Rep K F x v := fun {xs vs i v} h e => by
  have hl := RepL.length h
  have hi : i < xs.length := by
    rw [← hl]
    exact (List.getElem?_eq_some_iff.mp e).1
  obtain ⟨u, hu, hr⟩ := RepL.get (i := i) (x := xs[i]) h (by simp [hi])
  rw [e] at hu
  cases hu
  exact ⟨xs[i], by simp [hi], hr⟩
theorem RepL.nil : RepL K F [] [] := rfl
theorem RepL.cons {x : P} {xs : List P} {v : V} {vs : List V} (h : Rep K F x v) (t : RepL K F xs vs) : RepL K F (x :: xs) (v :: vs) := ⟨v, vs, rfl, h, t⟩
theorem RepL.append : ∀ {xs ys : List P} {vs ws : List V}, RepL K F xs vs → RepL K F ys ws → RepL K F (xs ++ ys) (vs ++ ws)
  | [], _, _, _, h, t => by
    have h' : _ = _ := h
    subst h'
    exact t
  | x :: xs, ys, vs, ws, h, t => by
    obtain ⟨v, r, e1, h1, h2⟩ := h
    subst e1
    exact ⟨v, r ++ ws, rfl, h1, RepL.append h2 t⟩
theorem RepL.take : ∀ {xs : List P} {vs : List V} (n : Nat), RepL K F xs vs → RepL K F (xs.take n) (vs.take n)
  | [], vs, n, h => by
    have h' : _ = _ := h
    subst h'
    simp only [List.take_nil]
    exact .nil
  | x :: xs, vs, 0, h => by
    simp only [List.take_zero]
    exact .nil
  | x :: xs, vs, n + 1, h => by
    obtain ⟨v, r, e1, h1, h2⟩ := h
    subst e1
    exact ⟨v, r.take n, rfl, h1, RepL.take n h2⟩
theorem RepL.drop : ∀ {xs : List P} {vs : List V} (n : Nat), RepL K F xs vs → RepL K F (xs.drop n) (vs.drop n)
  | [], vs, n, h => by
    have h' : _ = _ := h
    subst h'
    simp only [List.drop_nil]
    exact .nil
  | x :: xs, vs, 0, h => h
  | x :: xs, vs, n + 1, h => by
    obtain ⟨v, r, e1, h1, h2⟩ := h
    subst e1
    exact RepL.drop n h2
theorem RepL.reverse {xs : List P} {vs : List V} (h : RepL K F xs vs) : RepL K F xs.reverse vs.reverse := by
  induction xs generalizing vs with
  | nil =>
    have h' : _ = _ := h
    subst h'
    exact .nil
  | cons x xs ih =>
    obtain ⟨v, r, e1, h1, h2⟩ := h
    subst e1
    simp only [List.reverse_cons]
    exact (ih h2).append (.cons h1 .nil)
theorem RepL.set : ∀ {xs : List P} {vs : List V} {x : P} {v : V} (i : Nat), RepL K F xs vs → Rep K F x v → RepL K F (xs.set i x) (vs.set i v)
  | [], _, _, _, _, h, _ => by
    have h' : _ = _ := h
    subst h'
    exact .nil
  | y :: xs, vs, x, v, 0, h, hx => by
    obtain ⟨u, r, e1, h1, h2⟩ := h
    subst e1
    exact ⟨v, r, rfl, hx, h2⟩
  | y :: xs, vs, x, v, i + 1, h, hx => by
    obtain ⟨u, r, e1, h1, h2⟩ := h
    subst e1
    exact ⟨u, r.set i v, rfl, h1, RepL.set i h2 hx⟩
theorem RepL.dropLast {xs : List P} {vs : List V} (h : RepL K F xs vs) : RepL K F xs.dropLast vs.dropLast := by
  rw [List.dropLast_eq_take, List.dropLast_eq_take, h.length]
  exact h.take _
theorem RepL.replicate {x : P} {v : V} (h : Rep K F x v) : ∀ n, RepL K F (List.replicate n x) (List.replicate n v)
  | 0 => .nil
  | n + 1 => ⟨v, _, rfl, h, RepL.replicate h n⟩
end

abbrev Io := List (Option Addr)
def RepV (K : PySem.W.Frag) (io : Io) (F : Hp) : Vl → V → Prop
  | .p x, v => Rep K F x v
  | .c k, v => ∃ a, io[k]? = some (some a) ∧ v = .ref a
def RepVs (K : PySem.W.Frag) (io : Io) (F : Hp) : List Vl → List V → Prop
  | [], vs => vs = []
  | x :: xs, vs => ∃ v r, vs = v :: r ∧ RepV K io F x v ∧ RepVs K io F xs r
def CellAt (K : PySem.W.Frag) (io : Io) (F H : Hp) (k : Nat) : Cell → Prop
  | .lst xs => ∃ a vs, io[k]? = some (some a) ∧ F a = none ∧ H a = some (.lst vs) ∧ RepL K F xs vs
  | .lsv xs => ∃ a vs, io[k]? = some (some a) ∧ F a = none ∧ H a = some (.lst vs) ∧ RepVs K io F xs vs ∧ ∀ j, Vl.c j ∈ xs → j < k
  | .dct ks xs => ∃ a kvs, io[k]? = some (some a) ∧ F a = none ∧ H a = some (.dK kvs) ∧ RepL K F ks (kvs.map fun q => kV q.1) ∧ RepL K F xs (kvs.map (·.2))
  | .ins c ns xs => ∃ a dx gs, io[k]? = some (some a) ∧ F a = none ∧ H a = some (.ins (He.ga K c) dx gs) ∧ gs.map (·.1) = ns ∧ RepVs K io F xs (gs.map (·.2)) ∧ ∀ j, Vl.c j ∈ xs → j < k
  | .fz x => ∃ a, io[k]? = some (some a) ∧ Rep K F x (.ref a)
  | .res => io[k]? = some none
  | .tup xs => ∃ a vs, io[k]? = some (some a) ∧ F a = some (.tup vs) ∧ RepL K F xs vs
  | .tpz xs => ∃ a vs o, io[k]? = some (some a) ∧ F a = some (.frz o (.tup vs)) ∧ o.cls = .type "tuple" ∧ o.dict = none ∧ RepL K F xs vs
  | .dcT ks xs => ∃ a ws, io[k]? = some (some a) ∧ F a = none ∧ H a = some (.dT ((ks.map (List.map kk)).zip ws)) ∧ ks.length = ws.length ∧ RepL K F xs ws
  | .dcN η ks xs => ∃ a es, io[k]? = some (some a) ∧ F a = none ∧ H a = some (DNo η a es) ∧ nkL ks = some (es.map (·.1)) ∧ RepL K F ks (es.map fun e => V.ref e.2.1) ∧ RepL K F xs (es.map (·.2.2))
  | .tbl x q => io[k]? = some (some (lamT K x)) ∧ F (lamT K x) = none ∧ ∃ ps : Array Value, H (lamT K x) = some (.tbl ps) ∧ TriplesOk ps.toList ∧ ∀ (pos : Pos) (cv : Value), codeAmong pos ps.toList = some cv → ∃ c, cv = .ref c ∧ F c = some (LamX.CodeO c q)
  | .dvs xs => ∃ a o η es, io[k]? = some (some a) ∧ F a = some (.frz o (DNo η a es)) ∧ RepL K F xs (es.map (·.2.2))
  | .tblC x q c => (io[k]? = some (some (lamT K x)) ∧ F (lamT K x) = none ∧ ∃ ps : Array Value, H (lamT K x) = some (.tbl ps) ∧ TriplesOk ps.toList ∧ ∀ (pos : Pos) (cv : Value), codeAmong pos ps.toList = some cv → ∃ c, cv = .ref c ∧ F c = some (LamX.CodeO c q)) ∧ F c = some (LamX.CodeO c q)
structure Sta (K : PySem.W.Frag) (io : Io) (F : Hp) (S : Sto) (H : Hp) : Prop where
  len : io.length = S.length
  inj : ∀ (j k : Nat) (a : Addr), io[j]? = some (some a) → io[k]? = some (some a) → j = k
  sub : Same F H
  trk : ∀ (k : Nat) (a : Addr), io[k]? = some (some a) → H a ≠ none
  cel : ∀ (k : Nat) (c : Cell), S[k]? = some c → CellAt K io F H k c
structure Nxt (io : Io) (F H : Hp) (io' : Io) (F' H' : Hp) : Prop where
  han : ∀ (k : Nat) (a : Addr), io[k]? = some (some a) → io'[k]? = some (some a)
  fr : Same F F'
  out : ∀ (a : Addr) (o : HO), H a = some o → (∀ k : Nat, io[k]? ≠ some (some a)) → H' a = some o
  new : ∀ (k : Nat) (a : Addr), io'[k]? = some (some a) → io[k]? = some (some a) ∨ H a = none
  stay : ∀ a : Addr, H' a = none → H a = none
  nf : ∀ a : Addr, F' a ≠ none → F a ≠ none ∨ H a = none ∨ ∃ k : Nat, io[k]? = some (some a)
section
variable {K : PySem.W.Frag} {io io1 io2 : Io} {F F1 F2 H H1 H2 : Hp} {S : Sto}
theorem Nxt.refl : Nxt io F H io F H := ⟨fun _ _ h => h, fun _ _ h => h, fun _ _ h _ => h, fun _ _ h => .inl h, fun _ h => h, fun _ h => .inl h⟩
theorem Nxt.trans (a : Nxt io F H io1 F1 H1) (b : Nxt io1 F1 H1 io2 F2 H2) : Nxt io F H io2 F2 H2 where
  han := fun k x h => b.han k x (a.han k x h)
  fr := a.fr.trans b.fr
  out := fun x o h n => b.out x o (a.out x o h n) fun k e => by
    rcases a.new k x e with q | q
    · exact n k q
    · rw [h] at q; cases q
  new := fun k x h => by
    rcases b.new k x h with q | q
    · exact a.new k x q
    · exact .inr (a.stay x q)
  stay := fun x h => a.stay x (b.stay x h)
  nf := fun x h => by
    rcases b.nf x h with q | q | ⟨k, q⟩
    · exact a.nf x q
    · exact .inr (.inl (a.stay x q))
    · rcases a.new k x q with z | z
      · exact .inr (.inr ⟨k, z⟩)
      · exact .inr (.inl z)
theorem RepV.mono {io' : Io} {F' : Hp} (hi : ∀ (k : Nat) (a : Addr), io[k]? = some (some a) → io'[k]? = some (some a)) (e : Same F F') : ∀ {d : Vl} {v : V}, RepV K io F d v → RepV K io' F' d v
  | .p _, _, h => Rep.mono e h
  | .c k, _, ⟨a, h, r⟩ => ⟨a, hi k a h, r⟩
theorem RepVs.mono {io' : Io} {F' : Hp} (hi : ∀ (k : Nat) (a : Addr), io[k]? = some (some a) → io'[k]? = some (some a)) (e : Same F F') : ∀ {ds : List Vl} {vs : List V}, RepVs K io F ds vs → RepVs K io' F' ds vs
  | [], _, h => h
  | d :: ds, _, ⟨v, r, e1, h1, h2⟩ => ⟨v, r, e1, RepV.mono hi e h1, RepVs.mono hi e h2⟩
theorem RepVs.length : ∀ {xs : List Vl} {vs : List V}, RepVs K io F xs vs → vs.length = xs.length
  | [], _, h => by
    have h' : _ = _ := h
    rw [h']
    rfl
  | x :: xs, vs, h => by
    obtain ⟨v, r, e1, h1, h2⟩ := h
    rw [e1, List.length_cons, List.length_cons, RepVs.length h2]
theorem RepVs.get : ∀ {xs : List Vl} {vs : List V} {i : Nat} {x : Vl}, RepVs K io F xs vs → xs[i]? = some x → ∃ v, vs[i]? = some v ∧ RepV K io F x v
  | [], _, _, _, h, e => by simp at e
  | y :: xs, vs, 0, x, h, e => by
    obtain ⟨v, r, e1, h1, h2⟩ := h
    have : y = x := by simpa using e
    subst this
    subst e1
    exact ⟨v, rfl, h1⟩
  | y :: xs, vs, i + 1, x, h, e => by
    obtain ⟨v, r, e1, h1, h2⟩ := h
    subst e1
    obtain ⟨u, hu, hr⟩ := RepVs.get (i := i) h2 (by simpa using e)
    exact ⟨u, by simpa using hu, hr⟩
theorem RepVs.pure : ∀ {xs : List P} {vs : List V}, RepVs K io F (xs.map Vl.p) vs ↔ RepL K F xs vs
  | [], _ => Iff.rfl
  | x :: xs, vs => by
    constructor
    · rintro ⟨v, r, e1, h1, h2⟩
      exact ⟨v, r, e1, h1, RepVs.pure.mp h2⟩
    · rintro ⟨v, r, e1, h1, h2⟩
      exact ⟨v, r, e1, h1, RepVs.pure.mpr h2⟩

def rd (S : Sto) : Vl → Option P
  | .p x => some x
  | .c k => match S[k]? with
    | some (.lst xs) => some (.lst xs)
    | some (.dct ks xs) => some (.dct ks xs)
    | some (.fz x) => some x
    | some (.tup xs) => some (.tup xs)
    | some (.tpz xs) => some (.tup xs)
    | _ => none
def RepR (K : PySem.W.Frag) (F H : Hp) : P → V → Prop
  | .lst xs, v => ∃ a vs, v = .ref a ∧ H a = some (.lst vs) ∧ RepL K F xs vs
  | .dct ks xs, v => ∃ a kvs, v = .ref a ∧ H a = some (.dK kvs) ∧ RepL K F ks (kvs.map fun q => kV q.1) ∧ RepL K F xs (kvs.map (·.2))
  | x, v => Rep K F x v
theorem Rep.r (e : Same F H) {x : P} {v : V} (h : Rep K F x v) : RepR K F H x v := by
  cases x with
  | lst xs =>
    obtain ⟨a, vs, e1, h1, h2⟩ := h
    exact ⟨a, vs, e1, e _ _ h1, h2⟩
  | dct ks xs =>
    obtain ⟨a, kvs, e1, h1, h2, h3⟩ := h
    exact ⟨a, kvs, e1, e _ _ h1, h2, h3⟩
  | _ => exact h
theorem RepR.now (e : Same F H) {x : P} {v : V} (h : RepR K F H x v) : Rep K H x v := by
  cases x with
  | lst xs =>
    obtain ⟨a, vs, e1, h1, h2⟩ := h
    exact ⟨a, vs, e1, h1, RepL.mono e h2⟩
  | dct ks xs =>
    obtain ⟨a, kvs, e1, h1, h2, h3⟩ := h
    exact ⟨a, kvs, e1, h1, RepL.mono e h2, RepL.mono e h3⟩
  | non => exact h
  | bl _ => exact h
  | int _ => exact h
  | str _ => exact h
  | tup _ => exact Rep.mono e (x := .tup _) h
  | obj _ _ _ => exact Rep.mono e (x := .obj _ _ _) h
  | ty _ => exact h
  | glo _ => exact h
  | raw _ => exact h
  | rwp _ _ => exact Rep.mono e (x := .rwp _ _) h
  | scr _ => exact Rep.mono e (x := .scr _) h
theorem Sta.rd (st : Sta K io F S H) {d : Vl} {v : V} {x : P} (h : RepV K io F d v) (e : rd S d = some x) : RepR K F H x v := by
  cases d with
  | p y =>
    have e' : y = x := Option.some.inj e
    subst e'
    exact Rep.r st.sub h
  | c k =>
    obtain ⟨a, ha, rfl⟩ := h
    have e : (match S[k]? with
      | some (.lst xs) => some (P.lst xs)
      | some (.dct ks xs) => some (P.dct ks xs)
      | some (.fz x) => some x
      | some (.tup xs) => some (P.tup xs)
      | some (.tpz xs) => some (P.tup xs)
      | _ => none) = some x := e
    cases hk : S[k]? with
    | none => rw [hk] at e; cases e
    | some c =>
      rw [hk] at e
      cases c with
      | lst xs =>
        have e' : P.lst xs = x := Option.some.inj e
        subst e'
        obtain ⟨b, vs, hb, _, hH, hr⟩ := st.cel k _ hk
        rw [ha] at hb
        cases hb
        exact ⟨a, vs, rfl, hH, hr⟩
      | dct ks xs =>
        have e' : P.dct ks xs = x := Option.some.inj e
        subst e'
        obtain ⟨b, vs, hb, _, hH, hr, hr2⟩ := st.cel k _ hk
        rw [ha] at hb
        cases hb
        exact ⟨a, vs, rfl, hH, hr, hr2⟩
      | fz y =>
        have e' : y = x := Option.some.inj e
        subst e'
        obtain ⟨b, hb, hr⟩ := st.cel k _ hk
        rw [ha] at hb
        cases hb
        exact Rep.r st.sub hr
      | tup xs =>
        have e' : P.tup xs = x := Option.some.inj e
        subst e'
        obtain ⟨b, vs, hb, hF, hr⟩ := st.cel k _ hk
        rw [ha] at hb
        cases hb
        exact ⟨a, vs, rfl, SqT.of hF, hr⟩
      | tpz xs =>
        have e' : P.tup xs = x := Option.some.inj e
        subst e'
        obtain ⟨b, vs, o, hb, hF, _, _, hr⟩ := st.cel k _ hk
        rw [ha] at hb
        cases hb
        exact ⟨a, vs, rfl, .inl (.inr ⟨o, hF⟩), hr⟩
      | _ => cases e
theorem upd_same_of {p : Addr} {o : HO} (hp : H p = none) : Same H (upd H p o) := fun b u e => by
  rw [upd_ne (ne_of_none e hp)]
  exact e
theorem app_none {io T : Io} {k : Nat} (z : io[k]? = some none) : (io ++ T)[k]? = some none := by
  rw [List.getElem?_append_left (List.getElem?_eq_some_iff.mp z).1]
  exact z
theorem CellAt.mono {io' : Io} {F' : Hp} {k : Nat} {c : Cell} (hi : ∀ (k : Nat) (a : Addr), io[k]? = some (some a) → io'[k]? = some (some a)) (hF : Same F F')
    (hn : ∀ a, io[k]? = some (some a) → F a = none → F' a = none) (hH : ∀ a o, io[k]? = some (some a) → H a = some o → H1 a = some o) (h : CellAt K io F H k c) (hres : io[k]? = some none → io'[k]? = some none := by first | exact fun z => z | exact fun z => app_none z) : CellAt K io' F' H1 k c := by
  cases c with
  | lst xs =>
    obtain ⟨a, vs, h1, h2, h3, h4⟩ := h
    exact ⟨a, vs, hi _ _ h1, hn _ h1 h2, hH _ _ h1 h3, RepL.mono hF h4⟩
  | lsv ks =>
    obtain ⟨a, vs, h1, h2, h3, h4, h5⟩ := h
    exact ⟨a, vs, hi _ _ h1, hn _ h1 h2, hH _ _ h1 h3, RepVs.mono hi hF h4, h5⟩
  | dct ks xs =>
    obtain ⟨a, vs, h1, h2, h3, h4, h5⟩ := h
    exact ⟨a, vs, hi _ _ h1, hn _ h1 h2, hH _ _ h1 h3, RepL.mono hF h4, RepL.mono hF h5⟩
  | ins cc ns xs =>
    obtain ⟨a, dx, gs, h1, h2, h3, h4, h5, h6⟩ := h
    exact ⟨a, dx, gs, hi _ _ h1, hn _ h1 h2, hH _ _ h1 h3, h4, RepVs.mono hi hF h5, h6⟩
  | fz x =>
    obtain ⟨a, h1, h2⟩ := h
    exact ⟨a, hi _ _ h1, Rep.mono hF h2⟩
  | res => exact hres h
  | tup xs =>
    obtain ⟨a, vs, h1, h2, h3⟩ := h
    exact ⟨a, vs, hi _ _ h1, hF _ _ h2, RepL.mono hF h3⟩
  | tpz xs =>
    obtain ⟨a, vs, o, h1, h2, h3, h4, h5⟩ := h
    exact ⟨a, vs, o, hi _ _ h1, hF _ _ h2, h3, h4, RepL.mono hF h5⟩
  | dcT ks xs =>
    obtain ⟨a, ws, h1, h2, h3, h4, h5⟩ := h
    exact ⟨a, ws, hi _ _ h1, hn _ h1 h2, hH _ _ h1 h3, h4, RepL.mono hF h5⟩
  | dcN η ks xs =>
    obtain ⟨a, es, h1, h2, h3, h4, h5, h6⟩ := h
    exact ⟨a, es, hi _ _ h1, hn _ h1 h2, hH _ _ h1 h3, h4, RepL.mono hF h5, RepL.mono hF h6⟩
  | tbl p q =>
    obtain ⟨h1, h2, ps, h3, h4, h5⟩ := h
    refine ⟨hi _ _ h1, hn _ h1 h2, ps, hH _ _ h1 h3, h4, fun pos cv e => ?_⟩
    obtain ⟨c, e1, e2⟩ := h5 pos cv e
    exact ⟨c, e1, hF _ _ e2⟩
  | dvs xs =>
    obtain ⟨a, o, η, es, h1, h2, h3⟩ := h
    exact ⟨a, o, η, es, hi _ _ h1, hF _ _ h2, RepL.mono hF h3⟩
  | tblC p q c' =>
    obtain ⟨⟨h1, h2, ps, h3, h4, h5⟩, h6⟩ := h
    refine ⟨⟨hi _ _ h1, hn _ h1 h2, ps, hH _ _ h1 h3, h4, fun pos cv e => ?_⟩, hF _ _ h6⟩
    obtain ⟨c, e1, e2⟩ := h5 pos cv e
    exact ⟨c, e1, hF _ _ e2⟩
theorem CellAt.there {k : Nat} {c : Cell} (h : CellAt K io F H k c) (hc : ∀ x, c ≠ .fz x) (hc2 : c ≠ .res) (hc3 : ∀ xs, c ≠ .tup xs) (hc4 : ∀ xs, c ≠ .dvs xs ∧ c ≠ .tpz xs) : ∃ a o, io[k]? = some (some a) ∧ F a = none ∧ H a = some o := by
  cases c with
  | lst xs => obtain ⟨a, vs, h1, h2, h3, h4⟩ := h; exact ⟨a, _, h1, h2, h3⟩
  | lsv ks => obtain ⟨a, vs, h1, h2, h3, h4⟩ := h; exact ⟨a, _, h1, h2, h3⟩
  | dct ks xs => obtain ⟨a, vs, h1, h2, h3, h4⟩ := h; exact ⟨a, _, h1, h2, h3⟩
  | ins cc ns xs => obtain ⟨a, dx, vs, h1, h2, h3, h4⟩ := h; exact ⟨a, _, h1, h2, h3⟩
  | fz x => exact absurd rfl (hc x)
  | res => exact absurd rfl hc2
  | tup xs => exact absurd rfl (hc3 xs)
  | dcT ks xs => obtain ⟨a, vs, h1, h2, h3, h4⟩ := h; exact ⟨a, _, h1, h2, h3⟩
  | dcN η ks xs => obtain ⟨a, es, h1, h2, h3, h4⟩ := h; exact ⟨a, _, h1, h2, h3⟩
  | tbl x q => obtain ⟨h1, h2, ps, h3, h4⟩ := h; exact ⟨lamT K x, _, h1, h2, h3⟩
  | dvs xs => exact absurd rfl (hc4 xs).1
  | tpz xs => exact absurd rfl (hc4 xs).2
  | tblC x q c => obtain ⟨⟨h1, h2, ps, h3, h4⟩, _⟩ := h; exact ⟨lamT K x, _, h1, h2, h3⟩
theorem Sta.froze (st : Sta K io F S H) {p : Addr} {o : HO} (hp : H p = none) : Sta K io (upd F p o) S (upd H p o) ∧ Nxt io F H io (upd F p o) (upd H p o) := by
  have hF : F p = none := Same.free st.sub hp
  refine ⟨⟨st.len, st.inj, fun b u e => ?_, fun k a e z => ?_, fun k c e => ?_⟩, ⟨fun _ _ h => h, upd_same_of hF, fun b u e _ => ?_, fun _ _ h => .inl h, fun b e => ?_, fun b e => ?_⟩⟩
  · by_cases hb : b = p
    · subst hb
      rw [upd_same] at e ⊢
      exact e
    · rw [upd_ne hb] at e ⊢
      exact st.sub _ _ e
  · have q := st.trk k a e
    by_cases hb : a = p
    · subst hb; exact q hp
    · rw [upd_ne hb] at z; exact q z
  · have h := st.cel k c e
    by_cases hc : (∃ x, c = .fz x) ∨ c = .res ∨ (∃ xs, c = .tup xs) ∨ ∃ xs, c = .dvs xs ∨ c = .tpz xs
    · rcases hc with ⟨x, rfl⟩ | rfl | ⟨xs, rfl⟩ | ⟨xs, rfl | rfl⟩
      · obtain ⟨a, h1, h2⟩ := h
        exact ⟨a, h1, Rep.mono (upd_same_of hF) h2⟩
      · exact h
      · obtain ⟨a, vs, h1, h2, h3⟩ := h
        exact ⟨a, vs, h1, upd_same_of hF _ _ h2, RepL.mono (upd_same_of hF) h3⟩
      · obtain ⟨a, o, η, es, h1, h2, h3⟩ := h
        exact ⟨a, o, η, es, h1, upd_same_of hF _ _ h2, RepL.mono (upd_same_of hF) h3⟩
      · obtain ⟨a, vs, o, h1, h2, h3, h4, h5⟩ := h
        exact ⟨a, vs, o, h1, upd_same_of hF _ _ h2, h3, h4, RepL.mono (upd_same_of hF) h5⟩
    · have hc1 : ∀ x, c ≠ .fz x := fun x z => hc (.inl ⟨x, z⟩)
      have hc2 : c ≠ .res := fun z => hc (.inr (.inl z))
      obtain ⟨a, ob, ha, hn, hh⟩ := h.there hc1 hc2 (fun xs z => hc (.inr (.inr (.inl ⟨xs, z⟩)))) (fun xs => ⟨fun z => hc (.inr (.inr (.inr ⟨xs, .inl z⟩))), fun z => hc (.inr (.inr (.inr ⟨xs, .inr z⟩)))⟩)
      have nap : a ≠ p := ne_of_none hh hp
      refine h.mono (fun _ _ z => z) (upd_same_of hF) (fun b hb hn => ?_) fun b u hb hu => ?_
      · rw [ha] at hb; cases hb
        rw [upd_ne nap]; exact hn
      · rw [ha] at hb; cases hb
        rw [upd_ne nap]; exact hu
  · rw [upd_ne (ne_of_none e hp)]
    exact e
  · by_cases hb : b = p
    · subst hb; exact hp
    · rw [upd_ne hb] at e; exact e
  · by_cases hb : b = p
    · subst hb; exact .inr (.inl hp)
    · rw [upd_ne hb] at e; exact .inl e
theorem Sta.push (st : Sta K io F S H) {p : Addr} {o : HO} {c : Cell} (hp : H p = none) (hc : CellAt K (io ++ [some p]) F (upd H p o) S.length c) :
    Sta K (io ++ [some p]) F (S ++ [c]) (upd H p o) ∧ Nxt io F H (io ++ [some p]) F (upd H p o) := by
  have hF : F p = none := Same.free st.sub hp
  have hi : ∀ (k : Nat) (a : Addr), io[k]? = some (some a) → (io ++ [some p])[k]? = some (some a) := fun k a e => by
    rw [List.getElem?_append_left (List.getElem?_eq_some_iff.mp e).1]
    exact e
  have back : ∀ (k : Nat) (a : Addr), (io ++ [some p])[k]? = some (some a) → io[k]? = some (some a) ∨ (k = io.length ∧ a = p) := fun k a e => by
    rw [List.getElem?_append] at e
    split at e
    · exact .inl e
    · rename_i hk
      have hk2 : k - io.length = 0 := by
        have := (List.getElem?_eq_some_iff.mp e).1
        simp at this
        omega
      rw [hk2] at e
      have e' : p = a := by simpa using e
      exact .inr ⟨by omega, e'.symm⟩
  -- a live cell is not at p
  refine ⟨⟨by rw [List.length_append, List.length_append, st.len]; rfl, fun j k a h1 h2 => ?_, fun b u e => ?_, fun k a e z => ?_, fun k d e => ?_⟩, ⟨hi, fun _ _ h => h, fun b u e _ => ?_, fun k a h => ?_, fun b e => ?_, fun b e => .inl e⟩⟩
  · rcases back j a h1 with z | ⟨rfl, z⟩
    · rcases back k a h2 with y | ⟨rfl, y⟩
      · exact st.inj j k a z y
      · subst y; exact absurd hp (st.trk j _ z)
    · rcases back k a h2 with y | ⟨rfl, y⟩
      · subst z; exact absurd hp (st.trk k _ y)
      · rfl
  · rw [upd_ne (ne_of_none (st.sub _ _ e) hp)]
    exact st.sub _ _ e
  · rcases back k a e with y | ⟨rfl, y⟩
    · have q := st.trk k a y
      by_cases hb : a = p
      · subst hb; exact q hp
      · rw [upd_ne hb] at z; exact q z
    · subst y; rw [upd_same] at z; cases z
  · rw [List.getElem?_append] at e
    split at e
    · have h := st.cel k d e
      by_cases hd : (∃ x, d = .fz x) ∨ d = .res ∨ (∃ xs, d = .tup xs) ∨ ∃ xs, d = .dvs xs ∨ d = .tpz xs
      · rcases hd with ⟨x, rfl⟩ | rfl | ⟨xs, rfl⟩ | ⟨xs, rfl | rfl⟩
        · obtain ⟨a, h1, h2⟩ := h
          exact ⟨a, hi _ _ h1, h2⟩
        · exact app_none h
        · obtain ⟨a, vs, h1, h2, h3⟩ := h
          exact ⟨a, vs, hi _ _ h1, h2, h3⟩
        · obtain ⟨a, o, η, es, h1, h2, h3⟩ := h
          exact ⟨a, o, η, es, hi _ _ h1, h2, h3⟩
        · obtain ⟨a, vs, o, h1, h2, h3, h4, h5⟩ := h
          exact ⟨a, vs, o, hi _ _ h1, h2, h3, h4, h5⟩
      · obtain ⟨a, ob, ha, hn, hh⟩ := h.there (fun x z => hd (.inl ⟨x, z⟩)) (fun z => hd (.inr (.inl z))) (fun xs z => hd (.inr (.inr (.inl ⟨xs, z⟩)))) (fun xs => ⟨fun z => hd (.inr (.inr (.inr ⟨xs, .inl z⟩))), fun z => hd (.inr (.inr (.inr ⟨xs, .inr z⟩)))⟩)
        have nap : a ≠ p := ne_of_none hh hp
        refine h.mono hi (fun _ _ z => z) (fun _ _ hn => hn) fun b u hb hu => ?_
        rw [ha] at hb; cases hb
        rw [upd_ne nap]; exact hu
    · rename_i hk
      have hk2 : k - S.length = 0 := by
        have := (List.getElem?_eq_some_iff.mp e).1
        simp at this
        omega
      rw [hk2] at e
      have e' : c = d := by simpa using e
      subst e'
      have : k = S.length := by omega
      subst this
      exact hc
  · rw [upd_ne (ne_of_none e hp)]
    exact e
  · rcases back k a h with z | ⟨_, rfl⟩
    · exact .inl z
    · exact .inr hp
  · by_cases hb : b = p
    · subst hb; exact hp
    · rw [upd_ne hb] at e; exact e
theorem Sta.side (st : Sta K io F S H) {p : Addr} {o : HO} (hp : ∀ k : Nat, io[k]? ≠ some (some p)) (hF : F p = none) : Sta K io F S (upd H p o) := by
  refine ⟨st.len, st.inj, fun b u e => ?_, fun k a e z => ?_, fun k c e => ?_⟩
  · rw [upd_ne (ne_of_none e hF)]
    exact st.sub _ _ e
  · rw [upd_ne (fun q => by subst q; exact hp k e)] at z
    exact st.trk k a e z
  · refine (st.cel k c e).mono (fun _ _ z => z) (fun _ _ z => z) (fun _ _ hn => hn) fun b u hb hu => ?_
    rw [upd_ne (fun q => by subst q; exact hp k hb)]
    exact hu
def _root_.Mir.nv (S : Sto) : Vl → Vl
  | .p x => .p x
  | .c k => (match S[k]? with
    | some (.fz x) => .p x
    | some (.tup xs) => .p (.tup xs)
    | some (.tpz xs) => .p (.tup xs)
    | _ => .c k)
theorem Sta.nv (st : Sta K io F S H) {d : Vl} {v : V} (r : RepV K io F d v) : RepV K io F (Mir.nv S d) v := by
  cases d with
  | p x => exact r
  | c k =>
    unfold Mir.nv
    dsimp only
    split
    · rename_i x hk
      obtain ⟨a, ha, rfl⟩ := r
      obtain ⟨b, hb, hr⟩ := st.cel k _ hk
      rw [ha] at hb
      cases hb
      exact hr
    · rename_i xs hk
      obtain ⟨a, ha, rfl⟩ := r
      obtain ⟨b, vs, hb, hF, hr⟩ := st.cel k _ hk
      rw [ha] at hb
      cases hb
      exact ⟨a, vs, rfl, SqT.of hF, hr⟩
    · rename_i xs hk
      obtain ⟨a, ha, rfl⟩ := r
      obtain ⟨b, vs, o, hb, hF, _, _, hr⟩ := st.cel k _ hk
      rw [ha] at hb
      cases hb
      exact ⟨a, vs, rfl, .inl (.inr ⟨o, hF⟩), hr⟩
    · exact r
theorem Sta.notIn (st : Sta K io F S H) {p : Addr} (hp : H p = none) : ∀ k : Nat, io[k]? ≠ some (some p) := fun k e => st.trk k p e hp
end
end Mir

namespace Mir
open PySem L2
section
variable {K : PySem.W.Frag} {io io1 io2 : Io} {F F1 F2 H H1 H2 : Hp} {S : Sto}
theorem Sta.write (st : Sta K io F S H) {k : Nat} {a : Addr} {o : HO} {c : Cell} (ha : io[k]? = some (some a)) (hF : F a = none)
    (hc : CellAt K io F (upd H a o) k c) : Sta K io F (S.set k c) (upd H a o) ∧ Nxt io F H io F (upd H a o) := by
  refine ⟨⟨by rw [List.length_set]; exact st.len, st.inj, fun b u e => ?_, fun j b e z => ?_, fun j d e => ?_⟩, ⟨fun _ _ h => h, fun _ _ h => h, fun b u e n => ?_, fun _ _ h => .inl h, fun b e => ?_, fun b e => .inl e⟩⟩
  · rw [upd_ne (ne_of_none e hF)]
    exact st.sub _ _ e
  · by_cases hb : b = a
    · subst hb; rw [upd_same] at z; cases z
    · rw [upd_ne hb] at z; exact st.trk j b e z
  · by_cases hj : j = k
    · subst hj
      rw [List.getElem?_set_self (by
        have := (List.getElem?_eq_some_iff.mp ha).1
        rw [st.len] at this
        exact this)] at e
      cases e
      exact hc
    · rw [List.getElem?_set_ne (Ne.symm hj)] at e
      refine (st.cel j d e).mono (fun _ _ z => z) (fun _ _ z => z) (fun _ _ hn => hn) fun b u hb hu => ?_
      have nb : b ≠ a := fun q => by subst q; exact hj (st.inj j k _ hb ha)
      rw [upd_ne nb]; exact hu
  · rw [upd_ne (fun q => by subst q; exact n k ha)]
    exact e
  · by_cases hb : b = a
    · subst hb; rw [upd_same] at e; cases e
    · rw [upd_ne hb] at e; exact e
theorem Sta.freeze (st : Sta K io F S H) {k : Nat} {a : Addr} {o : HO} {x : P} (ha : io[k]? = some (some a)) (hF : F a = none) (hH : H a = some o) (hx : Rep K (upd F a o) x (.ref a)) :
    Sta K io (upd F a o) (S.set k (.fz x)) H ∧ Nxt io F H io (upd F a o) H := by
  refine ⟨⟨by rw [List.length_set]; exact st.len, st.inj, fun b u e => ?_, st.trk, fun j d e => ?_⟩, ⟨fun _ _ h => h, upd_same_of hF, fun b u e n => e, fun _ _ h => .inl h, fun b e => e, fun b e => by
    by_cases hb : b = a
    · subst hb; exact .inr (.inr ⟨k, ha⟩)
    · rw [upd_ne hb] at e; exact .inl e⟩⟩
  · by_cases hb : b = a
    · subst hb; rw [upd_same] at e; cases e; exact hH
    · rw [upd_ne hb] at e; exact st.sub _ _ e
  · by_cases hj : j = k
    · subst hj
      rw [List.getElem?_set_self (by
        have := (List.getElem?_eq_some_iff.mp ha).1
        rw [st.len] at this
        exact this)] at e
      cases e
      exact ⟨a, ha, hx⟩
    · rw [List.getElem?_set_ne (Ne.symm hj)] at e
      refine (st.cel j d e).mono (fun _ _ z => z) (upd_same_of hF) (fun b hb hn => ?_) fun b u hb hu => hu
      rw [upd_ne (fun q => by subst q; exact hj (st.inj j k _ hb ha))]
      exact hn
theorem Sta.lay (st : Sta K io F S H) {p : Addr} {o : HO} {c : Cell} (hp : ∀ k : Nat, io[k]? ≠ some (some p)) (hF : F p = none) (hH : H p = some o) (hc : CellAt K (io ++ [some p]) F H S.length c) :
    Sta K (io ++ [some p]) F (S ++ [c]) H ∧ ∀ (k : Nat) (a : Addr), io[k]? = some (some a) → (io ++ [some p])[k]? = some (some a) := by
  have hi : ∀ (k : Nat) (a : Addr), io[k]? = some (some a) → (io ++ [some p])[k]? = some (some a) := fun k a e => by
    rw [List.getElem?_append_left (List.getElem?_eq_some_iff.mp e).1]
    exact e
  have back : ∀ (k : Nat) (a : Addr), (io ++ [some p])[k]? = some (some a) → io[k]? = some (some a) ∨ (k = io.length ∧ a = p) := fun k a e => by
    rw [List.getElem?_append] at e
    split at e
    · exact .inl e
    · rename_i hk
      have hk2 : k - io.length = 0 := by
        have := (List.getElem?_eq_some_iff.mp e).1
        simp at this
        omega
      rw [hk2] at e
      have e' : p = a := by simpa using e
      exact .inr ⟨by omega, e'.symm⟩
  refine ⟨⟨by rw [List.length_append, List.length_append, st.len]; rfl, fun j k a h1 h2 => ?_, st.sub, fun k a e z => ?_, fun k d e => ?_⟩, hi⟩
  · rcases back j a h1 with z | ⟨rfl, z⟩
    · rcases back k a h2 with y | ⟨rfl, y⟩
      · exact st.inj j k a z y
      · subst y; exact absurd z (hp j)
    · rcases back k a h2 with y | ⟨rfl, y⟩
      · subst z; exact absurd y (hp k)
      · rfl
  · rcases back k a e with y | ⟨rfl, y⟩
    · exact st.trk k a y z
    · subst y; rw [hH] at z; cases z
  · rw [List.getElem?_append] at e
    split at e
    · exact (st.cel k d e).mono hi (fun _ _ z => z) (fun _ _ hn => hn) fun _ _ _ hu => hu
    · rename_i hk
      have hk2 : k - S.length = 0 := by
        have := (List.getElem?_eq_some_iff.mp e).1
        simp at this
        omega
      rw [hk2] at e
      have e' : c = d := by simpa using e
      subst e'
      have : k = S.length := by omega
      subst this
      exact hc
theorem RepVs.cut {n : Nat} : ∀ {xs : List Vl} {vs : List V}, (∀ j, Vl.c j ∈ xs → j < n) → RepVs K io F xs vs → RepVs K (io.take n) F xs vs
  | [], _, _, h => h
  | x :: xs, vs, hn, ⟨v, r, e1, h1, h2⟩ => by
    refine ⟨v, r, e1, ?_, RepVs.cut (fun j hj => hn j (List.mem_cons_of_mem _ hj)) h2⟩
    cases x with
    | p y => exact h1
    | c j =>
      obtain ⟨a, ha, hv⟩ := h1
      exact ⟨a, by rw [List.getElem?_take_of_lt (hn j List.mem_cons_self)]; exact ha, hv⟩
theorem Sta.cut (st : Sta K io F S H) (n : Nat) : Sta K (io.take n) F (S.take n) H := by
  have hb : ∀ (k : Nat) (a : Addr), (io.take n)[k]? = some (some a) → io[k]? = some (some a) := fun k a e => by
    rw [List.getElem?_take] at e
    split at e
    · exact e
    · cases e
  refine ⟨by rw [List.length_take, List.length_take, st.len], fun j k a h1 h2 => st.inj j k a (hb _ _ h1) (hb _ _ h2), st.sub, fun k a e => st.trk k a (hb _ _ e), fun k c e => ?_⟩
  have hk : k < n := by
    rw [List.getElem?_take] at e
    split at e
    · assumption
    · cases e
  rw [List.getElem?_take_of_lt hk] at e
  have h := st.cel k c e
  have hi : ∀ a, io[k]? = some (some a) → (io.take n)[k]? = some (some a) := fun a z => by rw [List.getElem?_take_of_lt hk]; exact z
  cases c with
  | lst xs =>
    obtain ⟨a, vs, h1, h2, h3, h4⟩ := h
    exact ⟨a, vs, hi _ h1, h2, h3, h4⟩
  | lsv ks =>
    obtain ⟨a, vs, h1, h2, h3, h4, h5⟩ := h
    exact ⟨a, vs, hi _ h1, h2, h3, RepVs.cut (fun j hj => Nat.lt_trans (h5 j hj) hk) h4, h5⟩
  | dct ks xs =>
    obtain ⟨a, vs, h1, h2, h3, h4, h5⟩ := h
    exact ⟨a, vs, hi _ h1, h2, h3, h4, h5⟩
  | ins cc ns xs =>
    obtain ⟨a, dx, gs, h1, h2, h3, h4, h5, h6⟩ := h
    exact ⟨a, dx, gs, hi _ h1, h2, h3, h4, RepVs.cut (fun j hj => Nat.lt_trans (h6 j hj) hk) h5, h6⟩
  | fz x =>
    obtain ⟨a, h1, h2⟩ := h
    exact ⟨a, hi _ h1, h2⟩
  | res =>
    show (io.take n)[k]? = some none
    rw [List.getElem?_take_of_lt hk]
    exact h
  | tup xs =>
    obtain ⟨a, vs, h1, h2, h3⟩ := h
    exact ⟨a, vs, hi _ h1, h2, h3⟩
  | tpz xs =>
    obtain ⟨a, vs, o, h1, h2, h3, h4, h5⟩ := h
    exact ⟨a, vs, o, hi _ h1, h2, h3, h4, h5⟩
  | dcT ks xs =>
    obtain ⟨a, ws, h1, h2, h3, h4, h5⟩ := h
    exact ⟨a, ws, hi _ h1, h2, h3, h4, h5⟩
  | dcN η ks xs =>
    obtain ⟨a, es, h1, h2, h3, h4, h5, h6⟩ := h
    exact ⟨a, es, hi _ h1, h2, h3, h4, h5, h6⟩
  | tbl p q =>
    obtain ⟨h1, h2, h3⟩ := h
    exact ⟨hi _ h1, h2, h3⟩
  | dvs xs =>
    obtain ⟨a, o, η, es, h1, h2, h3⟩ := h
    exact ⟨a, o, η, es, hi _ h1, h2, h3⟩
  | tblC p q c =>
    obtain ⟨⟨h1, h2, h3⟩, h4⟩ := h
    exact ⟨⟨hi _ h1, h2, h3⟩, h4⟩
theorem Nxt.cut {n : Nat} (hn : io.length = n) (a : Nxt io F H io1 F1 H1) : Nxt io F H (io1.take n) F1 H1 where
  han := fun k x e => by
    have hk : k < n := by
      rw [← hn]
      exact (List.getElem?_eq_some_iff.mp e).1
    rw [List.getElem?_take_of_lt hk]
    exact a.han k x e
  fr := a.fr
  out := a.out
  new := fun k x e => by
    rw [List.getElem?_take] at e
    split at e
    · exact a.new k x e
    · cases e
  stay := a.stay
  nf := a.nf
theorem RepV.cut {n : Nat} {d : Vl} {v : V} (hd : ∀ j, d = .c j → j < n) (h : RepV K io F d v) : RepV K (io.take n) F d v := by
  cases d with
  | p y => exact h
  | c j =>
    obtain ⟨a, ha, hv⟩ := h
    exact ⟨a, by rw [List.getElem?_take_of_lt (hd j rfl)]; exact ha, hv⟩
end

def XRep (K : PySem.W.Frag) (F H : Hp) : XD → Option Addr → Prop
  | none, d => d = none
  | some (ns, xs), d => ∃ a gs, d = some a ∧ F a = some (.xd gs) ∧ gs.map (·.1) = ns ∧ RepL K F xs (gs.map (·.2))
def RG {A B : Type} (K : PySem.W.Frag) (R : Io → Hp → A → B → Prop) (r : Res A) (io : Io) (F H : Hp) (Q : B → Hp → Prop) (W : XK) : Prop := match r with
  | .ok d S' => ∀ io' F' H' v, Nxt io F H io' F' H' → Sta K io' F' S' H' → R io' F' d v → Q v H'
  | .exc c x S' => ∀ io' F' H' d, Nxt io F H io' F' H' → Sta K io' F' S' H' → XRep K F' H' x d → W (.ref (He.ga K c)) d H'
  | .bad => False
section
variable {K : PySem.W.Frag} {io : Io} {F H : Hp} {S : Sto} {A B C D : Type} {R : Io → Hp → A → B → Prop} {R' : Io → Hp → C → D → Prop} {Q : D → Hp → Prop} {Q1 : B → Hp → Prop} {W : XK}
theorem RG.step {io1 : Io} {F1 H1 : Hp} {r : Res A} {Q : B → Hp → Prop} (nx : Nxt io F H io1 F1 H1) (h : RG K R r io F H Q W) : RG K R r io1 F1 H1 Q W := by
  cases r with
  | ok a S => exact fun io' F' H' v n s rp => h io' F' H' v (nx.trans n) s rp
  | exc c x S => exact fun io' F' H' d n s rp => h io' F' H' d (nx.trans n) s rp
  | bad => exact h
theorem RG.bind {r : Res A} {f : A → Sto → Res C} (h : RG K R' (r.bind f) io F H Q W)
    (k : ∀ a S1 io1 F1 H1 v, r = .ok a S1 → Nxt io F H io1 F1 H1 → Sta K io1 F1 S1 H1 → R io1 F1 a v → RG K R' (f a S1) io1 F1 H1 Q W → Q1 v H1) : RG K R r io F H Q1 W := by
  cases r with
  | ok a S => exact fun io' F' H' v n s rp => k a S io' F' H' v rfl n s rp (RG.step n h)
  | exc c x S => exact h
  | bad => exact h
theorem RG.val {d : A} {v : B} {Q : B → Hp → Prop} (st : Sta K io F S H) (hr : R io F d v) (h : RG K R (.ok d S) io F H Q W) : Q v H := h io F H v Nxt.refl st hr
end
abbrev RepA (K : PySem.W.Frag) : Io → Hp → Vl → V → Prop := fun io F d v => RepV K io F d v
abbrev RepAs (K : PySem.W.Frag) : Io → Hp → List Vl → List V → Prop := fun io F d v => RepVs K io F d v

def RepO (K : PySem.W.Frag) (io : Io) (F : Hp) : Option Vl → Option V → Prop
  | none, _ => True
  | some d, o => ∃ v, o = some v ∧ RepV K io F d v
def Env (K : PySem.W.Frag) (io : Io) (F : Hp) : En → St → Prop
  | [], s => s = []
  | d :: ds, s => ∃ o r, s = o :: r ∧ RepO K io F d o ∧ Env K io F ds r
section
variable {K : PySem.W.Frag} {io io' : Io} {F F' H H' : Hp}
theorem RepO.mono (hi : ∀ (k : Nat) (a : Addr), io[k]? = some (some a) → io'[k]? = some (some a)) (e : Same F F') : ∀ {d : Option Vl} {o : Option V}, RepO K io F d o → RepO K io' F' d o
  | none, _, _ => trivial
  | some _, _, ⟨v, e1, h⟩ => ⟨v, e1, h.mono hi e⟩
theorem Env.mono (hi : ∀ (k : Nat) (a : Addr), io[k]? = some (some a) → io'[k]? = some (some a)) (e : Same F F') : ∀ {ds : En} {s : St}, Env K io F ds s → Env K io' F' ds s
  | [], _, h => h
  | d :: ds, _, ⟨o, r, e1, h1, h2⟩ => ⟨o, r, e1, h1.mono hi e, Env.mono hi e h2⟩
theorem Env.nxt (n : Nxt io F H io' F' H') {ds : En} {s : St} (h : Env K io F ds s) : Env K io' F' ds s := h.mono n.han n.fr
theorem Env.get : ∀ {ds : En} {s : St} {i : Nat} {d : Vl}, Env K io F ds s → ds[i]? = some (some d) → ∃ v, s[i]? = some (some v) ∧ RepV K io F d v
  | [], _, _, _, _, e => by simp at e
  | x :: ds, s, 0, d, ⟨o, r, e1, h1, h2⟩, e => by
    have e' : x = some d := by simpa using e
    subst e'
    obtain ⟨v, e2, h3⟩ := h1
    subst e1; subst e2
    exact ⟨v, rfl, h3⟩
  | x :: ds, s, i + 1, d, ⟨o, r, e1, h1, h2⟩, e => by
    subst e1
    obtain ⟨v, hv, hr⟩ := Env.get (i := i) h2 (by simpa using e)
    exact ⟨v, by simpa using hv, hr⟩
theorem Env.set {d : Vl} {v : V} (hr : RepV K io F d v) : ∀ {ds : En} {s : St} (i : Nat), Env K io F ds s → Env K io F (ds.set i (some d)) (s.set i (some v))
  | [], _, _, h => by
    have h' : _ = _ := h
    subst h'
    exact rfl
  | x :: ds, s, 0, ⟨o, r, e1, h1, h2⟩ => by
    subst e1
    exact ⟨some v, r, rfl, ⟨v, rfl, hr⟩, h2⟩
  | x :: ds, s, i + 1, ⟨o, r, e1, h1, h2⟩ => by
    subst e1
    exact ⟨o, _, rfl, h1, Env.set hr i h2⟩
theorem Env.unset : ∀ {ds : En} {s : St} (i : Nat) (o : Option V), Env K io F ds s → Env K io F (ds.set i none) (s.set i o)
  | [], _, _, _, h => by
    have h' : _ = _ := h
    subst h'
    exact rfl
  | x :: ds, s, 0, o', ⟨o, r, e1, h1, h2⟩ => by
    subst e1
    exact ⟨o', r, rfl, trivial, h2⟩
  | x :: ds, s, i + 1, o', ⟨o, r, e1, h1, h2⟩ => by
    subst e1
    exact ⟨o, _, rfl, h1, Env.unset i o' h2⟩
theorem Env.start : ∀ {ds : List Vl} {vs : List V} (n : Nat), RepVs K io F ds vs → Env K io F (ds.map some ++ List.replicate n none) (vs.map some ++ List.replicate n none)
  | [], _, n, h => by
    have h' : _ = _ := h
    subst h'
    show Env K io F (List.replicate n none) (List.replicate n none)
    induction n with
    | zero => exact rfl
    | succ n ih => exact ⟨none, _, rfl, trivial, ih⟩
  | d :: ds, _, n, ⟨v, r, e1, h1, h2⟩ => by
    subst e1
    exact ⟨some v, _, rfl, ⟨v, rfl, h1⟩, Env.start n h2⟩
def wipeE (ds : En) : List Nat → En
  | [] => ds
  | v :: vs => (wipeE ds vs).set v none
theorem Env.wipe {ds : En} {s : St} (h : Env K io F ds s) : ∀ vs : List Nat, Env K io F (wipeE ds vs) (L2.wipe s vs)
  | [] => h
  | v :: vs => (Env.wipe h vs).unset v none
end

def OE (X : Cx) (W : WX) (e : Expr) (m : ME) : Prop := ∃ t, PE X e t ∧ ∀ (ρ : En) (S : Sto) (io : Io) (F : Hp) (σ : St) (H : Hp) (Q : VK), Sta X.K io F S H → Env X.K io F ρ σ →
  RG X.K (RepA X.K) (m ρ S) io F H Q (fun c d H' => W c d σ H') → t σ H Q
abbrev MT := En → Sto → Res Bool
def RepB : Io → Hp → Bool → Bool → Prop := fun _ _ b c => b = c
def OT (X : Cx) (W : WX) (e : Expr) (m : MT) : Prop := ∃ t, PT X e t ∧ ∀ (ρ : En) (S : Sto) (io : Io) (F : Hp) (σ : St) (H : Hp) (Q : Bool → Hp → Prop), Sta X.K io F S H → Env X.K io F ρ σ →
  RG X.K RepB (m ρ S) io F H Q (fun c d H' => W c d σ H') → t σ H Q
abbrev MA := En → Sto → Res (List Vl)
def OA (X : Cx) (W : WX) (es : List Expr) (m : MA) : Prop := ∃ t, PA X es t ∧ ∀ (ρ : En) (S : Sto) (io : Io) (F : Hp) (σ : St) (H : Hp) (Q : List V → Hp → Prop), Sta X.K io F S H → Env X.K io F ρ σ →
  RG X.K (RepAs X.K) (m ρ S) io F H Q (fun c d H' => W c d σ H') → t σ H Q
inductive Fl where
  | nx (ρ : En) | rt (d : Vl) | bk (ρ : En) | ct (ρ : En) | xc (ρ : En) (c : Str) (d : XD)
inductive RF where
  | ok (f : Fl) (S : Sto)
  | bad
abbrev MS := En → Sto → RF
def RS (K : PySem.W.Frag) (r : RF) (io : Io) (F H : Hp) (D : Ends) (W : WX) : Prop := match r with
  | .ok (.nx ρ) S' => ∀ io' F' H' σ', Nxt io F H io' F' H' → Sta K io' F' S' H' → Env K io' F' ρ σ' → D.nx σ' H'
  | .ok (.rt d) S' => ∀ io' F' H' v, Nxt io F H io' F' H' → Sta K io' F' S' H' → RepV K io' F' d v → D.rt v H'
  | .ok (.bk ρ) S' => ∀ io' F' H' σ', Nxt io F H io' F' H' → Sta K io' F' S' H' → Env K io' F' ρ σ' → D.bk σ' H'
  | .ok (.ct ρ) S' => ∀ io' F' H' σ', Nxt io F H io' F' H' → Sta K io' F' S' H' → Env K io' F' ρ σ' → D.ct σ' H'
  | .ok (.xc ρ c x) S' => ∀ io' F' H' d σ', Nxt io F H io' F' H' → Sta K io' F' S' H' → Env K io' F' ρ σ' → XRep K F' H' x d → W (.ref (He.ga K c)) d σ' H'
  | .bad => False
def OS (X : Cx) (W : WX) (st : Stmt) (m : MS) : Prop := ∃ t, PS X st t ∧ ∀ (ρ : En) (S : Sto) (io : Io) (F : Hp) (σ : St) (H : Hp) (D : Ends), Sta X.K io F S H → Env X.K io F ρ σ →
  RS X.K (m ρ S) io F H D W → t D σ H
def OSs (X : Cx) (W : WX) (st : List Stmt) (m : MS) : Prop := ∃ t, PSs X st t ∧ ∀ (ρ : En) (S : Sto) (io : Io) (F : Hp) (σ : St) (H : Hp) (D : Ends), Sta X.K io F S H → Env X.K io F ρ σ →
  RS X.K (m ρ S) io F H D W → t D σ H
def Res.go {A : Type} (r : Res A) (ρ : En) (f : A → Sto → RF) : RF := match r with
  | .ok a S => f a S
  | .exc c x S => .ok (.xc ρ c x) S
  | .bad => .bad
section
variable {K : PySem.W.Frag} {io : Io} {F H : Hp} {S : Sto} {A B : Type} {R : Io → Hp → A → B → Prop} {Q1 : B → Hp → Prop} {W : WX} {D : Ends} {ρ : En} {σ : St}
theorem RS.step {io1 : Io} {F1 H1 : Hp} {r : RF} (nx : Nxt io F H io1 F1 H1) (h : RS K r io F H D W) : RS K r io1 F1 H1 D W := by
  cases r with
  | ok f S =>
    cases f with
    | nx ρ => exact fun io' F' H' v n s rp => h io' F' H' v (nx.trans n) s rp
    | rt ρ => exact fun io' F' H' v n s rp => h io' F' H' v (nx.trans n) s rp
    | bk ρ => exact fun io' F' H' v n s rp => h io' F' H' v (nx.trans n) s rp
    | ct ρ => exact fun io' F' H' v n s rp => h io' F' H' v (nx.trans n) s rp
    | xc ρ c x => exact fun io' F' H' d v n s rp xr => h io' F' H' d v (nx.trans n) s rp xr
  | bad => exact h
theorem RS.go {r : Res A} {f : A → Sto → RF} (en : Env K io F ρ σ) (h : RS K (r.go ρ f) io F H D W)
    (k : ∀ a S1 io1 F1 H1 v, r = .ok a S1 → Nxt io F H io1 F1 H1 → Sta K io1 F1 S1 H1 → R io1 F1 a v → RS K (f a S1) io1 F1 H1 D W → Q1 v H1) : RG K R r io F H Q1 (fun c d H' => W c d σ H') := by
  cases r with
  | ok a S => exact fun io' F' H' v n s rp => k a S io' F' H' v rfl n s rp (RS.step n h)
  | exc c x S => exact fun io' F' H' d n s xr => h io' F' H' d σ n s (en.nxt n) xr
  | bad => exact h
end
end Mir

namespace Mir
open PySem L2

def eVar (i : Nat) : ME := fun ρ S => match ρ[i]? with
  | some (some d) => .ok d S
  | _ => .bad
def eC (x : P) : ME := fun _ S => .ok (.p x) S
def op1 (f : P → Option P) (x : Vl) (S : Sto) : Res Vl := match rd S x with
  | some x => (match f x with
    | some z => .ok (.p z) S
    | none => .bad)
  | none => .bad
def op2 (f : P → P → Option P) (x y : Vl) (S : Sto) : Res Vl := match rd S x, rd S y with
  | some x, some y => (match f x y with
    | some z => .ok (.p z) S
    | none => .bad)
  | _, _ => .bad
def eUn (f : P → Option P) (a : ME) : ME := fun ρ S => (a ρ S).bind fun x S1 => op1 f x S1
def eBin (f : P → P → Option P) (a b : ME) : ME := fun ρ S => (a ρ S).bind fun x S1 => (b ρ S1).bind fun y S2 => op2 f x y S2
def tst (x : Vl) (S : Sto) : Res Bool := match x with
  | .p (.bl b) => .ok b S
  | _ => .bad
def tVal (a : ME) : MT := fun ρ S => (a ρ S).bind tst
def tAndM (a b : MT) : MT := fun ρ S => (a ρ S).bind fun x S1 => match x with
  | true => b ρ S1
  | false => .ok false S1
def tOrM (a b : MT) : MT := fun ρ S => (a ρ S).bind fun x S1 => match x with
  | true => .ok true S1
  | false => b ρ S1
def tNotM (a : MT) : MT := fun ρ S => (a ρ S).bind fun x S1 => .ok (!x) S1
def eAndM (a b : ME) : ME := fun ρ S => (a ρ S).bind fun x S1 => (tst x S1).bind fun c S2 => match c with
  | true => b ρ S2
  | false => .ok (.p (.bl false)) S2
def eOrM (a b : ME) : ME := fun ρ S => (a ρ S).bind fun x S1 => (tst x S1).bind fun c S2 => match c with
  | true => .ok (.p (.bl true)) S2
  | false => b ρ S2
def eNotM (a : ME) : ME := fun ρ S => (a ρ S).bind fun x S1 => (tst x S1).bind fun c S2 => .ok (.p (.bl (!c))) S2
def eIfM (t : MT) (a b : ME) : ME := fun ρ S => (t ρ S).bind fun x S1 => match x with
  | true => a ρ S1
  | false => b ρ S1
def aNil : MA := fun _ S => .ok [] S
def aCons (a : ME) (r : MA) : MA := fun ρ S => (a ρ S).bind fun x S1 => (r ρ S1).bind fun xs S2 => .ok (x :: xs) S2
def seqR (f : Vl → Sto → Res P) : List Vl → Sto → Res (List P)
  | [], S => .ok [] S
  | x :: xs, S => (f x S).bind fun y S1 => (seqR f xs S1).bind fun ys S2 => .ok (y :: ys) S2
def frzN : Nat → Vl → Sto → Res P
  | 0, x, S => (match x with
    | .p x => .ok x S
    | .c _ => .bad)
  | n + 1, x, S => match x with
    | .p x => .ok x S
    | .c k => match S[k]? with
      | some (.lst xs) => .ok (.lst xs) (S.set k (.fz (.lst xs)))
      | some (.dct ks xs) => .ok (.dct ks xs) (S.set k (.fz (.dct ks xs)))
      | some (.fz x) => .ok x S
      | some (.tup xs) => .ok (.tup xs) S
      | some (.tpz xs) => .ok (.tup xs) S
      | some (.lsv xs) => (seqR (frzN n) xs S).bind fun ys S1 => (match S1[k]? with
        | some (.lsv _) => .ok (.lst ys) (S1.set k (.fz (.lst ys)))
        | _ => .bad)
      | some (.ins c ns xs) => (seqR (frzN n) xs S).bind fun ys S1 => (match S1[k]? with
        | some (.ins c' ns' _) => if c' = c ∧ ns' = ns then .ok (.obj c ns ys) (S1.set k (.fz (.obj c ns ys))) else .bad
        | _ => .bad)
      | _ => .bad
def frz (x : Vl) (S : Sto) : Res P := frzN 3 x S
def frzs (xs : List Vl) (S : Sto) : Res (List P) := seqR frz xs S
@[simp] theorem frz_p (x : P) (S : Sto) : frz (.p x) S = .ok x S := rfl
@[simp] theorem frzs_p : ∀ (xs : List P) (S : Sto), frzs (xs.map Vl.p) S = .ok xs S
  | [], S => rfl
  | x :: xs, S => by
    show ((frz (.p x) S).bind fun y S1 => (frzs (xs.map Vl.p) S1).bind fun ys S2 => Res.ok (y :: ys) S2) = _
    rw [frz_p]
    show ((frzs (xs.map Vl.p) S).bind fun ys S2 => Res.ok (x :: ys) S2) = _
    rw [frzs_p xs S]
    rfl
theorem seqR_nox {f : Vl → Sto → Res P} (hf : ∀ x S c d S', f x S ≠ .exc c d S') : ∀ (xs : List Vl) (S : Sto) (c : Str) (d : XD) (S' : Sto), seqR f xs S ≠ .exc c d S'
  | [], S, c, d, S', e => nomatch e
  | x :: xs, S, c, d, S', e => by
    have e : ((f x S).bind fun y S1 => (seqR f xs S1).bind fun ys S2 => Res.ok (y :: ys) S2) = .exc c d S' := e
    cases q : f x S with
    | bad => rw [q] at e; cases e
    | exc c' d' S1 => exact hf _ _ _ _ _ q
    | ok y S1 =>
      rw [q] at e
      have e : ((seqR f xs S1).bind fun ys S2 => Res.ok (y :: ys) S2) = .exc c d S' := e
      cases q2 : seqR f xs S1 with
      | bad => rw [q2] at e; cases e
      | exc c' d' S2 => exact seqR_nox hf xs S1 c' d' S2 q2
      | ok ys S2 => rw [q2] at e; cases e
theorem frzN_nox : ∀ (n : Nat) (x : Vl) (S : Sto) (c : Str) (d : XD) (S' : Sto), frzN n x S ≠ .exc c d S'
  | 0, .p _, S, c, d, S', e => nomatch e
  | 0, .c _, S, c, d, S', e => nomatch e
  | n + 1, .p _, S, c, d, S', e => nomatch e
  | n + 1, .c k, S, c, d, S', e => by
    unfold frzN at e
    dsimp only at e
    split at e
    · cases e
    · cases e
    · cases e
    · cases e
    · cases e
    · rename_i xs _
      cases q : seqR (frzN n) xs S with
      | bad => rw [q] at e; cases e
      | exc c' d' S1 => exact seqR_nox (frzN_nox n) _ _ _ _ _ q
      | ok ys S1 =>
        rw [q] at e
        have e : (match S1[k]? with
          | some (.lsv _) => Res.ok (P.lst ys) (S1.set k (.fz (.lst ys)))
          | _ => .bad) = .exc c d S' := e
        split at e <;> cases e
    · rename_i c2 ns xs _
      cases q : seqR (frzN n) xs S with
      | bad => rw [q] at e; cases e
      | exc c' d' S1 => exact seqR_nox (frzN_nox n) _ _ _ _ _ q
      | ok ys S1 =>
        rw [q] at e
        have e : (match S1[k]? with
          | some (.ins c' ns' _) => if c' = c2 ∧ ns' = ns then Res.ok (P.obj c2 ns ys) (S1.set k (.fz (.obj c2 ns ys))) else .bad
          | _ => .bad) = .exc c d S' := e
        split at e
        · split at e <;> cases e
        · cases e
    · cases e
theorem frz_nox (x : Vl) (S : Sto) (c : Str) (d : XD) (S' : Sto) : frz x S ≠ .exc c d S' := frzN_nox 3 x S c d S'
def eTup (a : MA) : ME := fun ρ S => (a ρ S).bind fun xs S1 => (frzs xs S1).bind fun ys S2 => if ys.length ≤ 100000 then .ok (.p (.tup ys)) S2 else .bad
def eLst (a : MA) : ME := fun ρ S => (a ρ S).bind fun xs S1 => (frzs xs S1).bind fun ys S2 => if ys.length ≤ 100000 then .ok (.p (.lst ys)) S2 else .bad
def eLstC (a : MA) : ME := fun ρ S => (a ρ S).bind fun xs S1 => (frzs xs S1).bind fun ys S2 => if ys.length ≤ 100000 then .ok (.c S2.length) (S2 ++ [.lst ys]) else .bad

def UnOk (K : PySem.W.Frag) (r : V → Hp → VK → Prop) (f : P → Option P) : Prop := ∀ (io : Io) (F : Hp) (S : Sto) (H : Hp) (x : P) (v : V) (z : P) (Q : VK), Sta K io F S H → RepR K F H x v → f x = some z →
  (∀ F' H' u, Nxt io F H io F' H' → Sta K io F' S H' → Rep K F' z u → Q u H') → r v H Q
def BinOk (K : PySem.W.Frag) (r : R2) (f : P → P → Option P) : Prop := ∀ (io : Io) (F : Hp) (S : Sto) (H : Hp) (x y : P) (v w : V) (z : P) (Q : VK), Sta K io F S H → RepR K F H x v → RepR K F H y w → f x y = some z →
  (∀ F' H' u, Nxt io F H io F' H' → Sta K io F' S H' → Rep K F' z u → Q u H') → r v w H Q
section
variable {X : Cx} {W : WX} {a b c : Expr} {ma mb mc : ME} {pos : Pos} {ta tb : MT} {es : List Expr} {mas : MA}
theorem Sta.op2 {K : PySem.W.Frag} {io : Io} {F : Hp} {S : Sto} {H : Hp} {r : R2} {f : P → P → Option P} {d d2 : Vl} {v v2 : V} {Q : VK} {E : XK} (hf : BinOk K r f) (st : Sta K io F S H) (r1 : RepV K io F d v) (r2 : RepV K io F d2 v2)
    (h : RG K (RepA K) (Mir.op2 f d d2 S) io F H Q E) : r v v2 H Q := by
  unfold Mir.op2 at h
  cases e1 : Mir.rd S d with
  | none => rw [e1] at h; exact h.elim
  | some x =>
    cases e2 : Mir.rd S d2 with
    | none => rw [e1, e2] at h; exact h.elim
    | some y =>
      rw [e1, e2] at h
      dsimp only at h
      cases e3 : f x y with
      | none => rw [e3] at h; exact h.elim
      | some z =>
        rw [e3] at h
        exact hf io F S H x y v v2 z Q st (st.rd r1 e1) (st.rd r2 e2) e3 fun F' H' u n s rp => h io F' H' u n s rp
theorem Sta.op1 {K : PySem.W.Frag} {io : Io} {F : Hp} {S : Sto} {H : Hp} {r : V → Hp → VK → Prop} {f : P → Option P} {d : Vl} {v : V} {Q : VK} {E : XK} (hf : UnOk K r f) (st : Sta K io F S H) (r1 : RepV K io F d v)
    (h : RG K (RepA K) (Mir.op1 f d S) io F H Q E) : r v H Q := by
  unfold Mir.op1 at h
  cases e1 : Mir.rd S d with
  | none => rw [e1] at h; exact h.elim
  | some x =>
    rw [e1] at h
    dsimp only at h
    cases e3 : f x with
    | none => rw [e3] at h; exact h.elim
    | some z =>
      rw [e3] at h
      exact hf io F S H x v z Q st (st.rd r1 e1) e3 fun F' H' u n s rp => h io F' H' u n s rp
theorem oe_var (i : Nat) {x : Str} (hN : X.N[i]? = some x := by rfl) (hv : Vis X.env.scope x := by first | exact Or.inl rfl | exact Or.inr (Or.inl rfl) | exact Or.inr (Or.inr rfl)) (hd : (x == ("__debug__" : Str)) = false := by decide)
    (hcd : (x == ("__classdict__" : Str)) = false := by decide) : OE X W (.Name x pos) (eVar i) := by
  refine ⟨_, pe_var hN hv hd hcd, fun ρ S io F σ H Q st en h => ?_⟩
  unfold eVar at h
  cases e : ρ[i]? with
  | none => rw [e] at h; exact h.elim
  | some o =>
    cases o with
    | none => rw [e] at h; exact h.elim
    | some d =>
      rw [e] at h
      obtain ⟨v, hv, hr⟩ := en.get e
      exact ⟨v, hv, RG.val st hr h⟩
theorem oe_c {e : Expr} {v : V} {x : P} (h : PE X e (tC v)) (hr : ∀ F, Rep X.K F x v) : OE X W e (eC x) :=
  ⟨_, h, fun ρ S io F σ H Q st en h => RG.val (R := RepA X.K) (d := .p x) st (hr F) h⟩
theorem oe_int {i : Int} {j : Nat} : OE X W (.Constant (.int i) j pos) (eC (.int i)) := oe_c pe_int fun _ => rfl
theorem oe_bl {i : Bool} {j : Nat} : OE X W (.Constant (.bool i) j pos) (eC (.bl i)) := oe_c pe_bl fun _ => rfl
theorem oe_non {j : Nat} : OE X W (.Constant .none j pos) (eC .non) := oe_c pe_non fun _ => rfl
theorem strOf_toList (x : Str) : strOf x.cps.toList = x := by
  unfold strOf
  rw [Array.toArray_toList]
theorem oe_str {x : Str} {j : Nat} {xs : List Nat} (h : x.cps.toList = xs := by rfl) : OE X W (.Constant (.str x) j pos) (eC (.str xs)) := oe_c pe_str fun _ => by
  show V.str x = V.str (strOf xs)
  rw [← h, strOf_toList]
theorem oe_glob {x : Str} {v : V} {u : Value} {p : P} (hm : X.mg x = some u) (r : RelV v u) (hp : ∀ F, Rep X.K F p v) (hg : Gl X x := by rfl) (hd : (x == ("__debug__" : Str)) = false := by decide) : OE X W (.Name x pos) (eC p) := oe_c (pe_glob hg hm r hd) hp
theorem oe_bltn {x : Str} {v : V} {u : Value} {p : P} (hm : X.mg x = none) (hv : bootBuiltins x = some u) (r : RelV v u) (hp : ∀ F, Rep X.K F p v) (hg : Gl X x := by rfl) (hn : x ≠ "__name__" := by decide) (hd : (x == ("__debug__" : Str)) = false := by decide) : OE X W (.Name x pos) (eC p) := oe_c (pe_bltn hg hm hv r hn hd) hp
theorem oe_bin {op : Operator} {r : R2} {f : P → P → Option P} (ho : OpR X (binaryOp op) r) (hf : BinOk X.K r f) (ha : OE X W a ma) (hb : OE X W b mb) : OE X W (.BinOp a op b pos) (eBin f ma mb) := by
  obtain ⟨ta, pa, ha⟩ := ha
  obtain ⟨tb, pb, hb⟩ := hb
  refine ⟨tOp r ta tb, pe_op ho pa pb, fun ρ S io F σ H Q st en h => ?_⟩
  refine ha ρ S io F σ H _ st en (RG.bind h fun d S1 io1 F1 H1 v e1 n1 s1 r1 h1 => ?_)
  refine hb ρ S1 io1 F1 σ H1 _ s1 (en.nxt n1) (RG.bind h1 fun d2 S2 io2 F2 H2 v2 e2 n2 s2 r2 h2 => ?_)
  exact s2.op2 hf (r1.mono n2.han n2.fr) r2 h2
theorem oe_cmp {op : CmpOp} {r : R2} {f : P → P → Option P} (ho : OpR X (compareOp op) r) (hf : BinOk X.K r f) (ha : OE X W a ma) (hb : OE X W b mb) (hm : behindInMarks op b = false := by first | exact nomark _ | rfl) : OE X W (.Compare a [op] [b] pos) (eBin f ma mb) := by
  obtain ⟨ta, pa, ha⟩ := ha
  obtain ⟨tb, pb, hb⟩ := hb
  refine ⟨tOp r ta tb, pe_cmpR ho pa pb hm, fun ρ S io F σ H Q st en h => ?_⟩
  refine ha ρ S io F σ H _ st en (RG.bind h fun d S1 io1 F1 H1 v e1 n1 s1 r1 h1 => ?_)
  refine hb ρ S1 io1 F1 σ H1 _ s1 (en.nxt n1) (RG.bind h1 fun d2 S2 io2 F2 H2 v2 e2 n2 s2 r2 h2 => ?_)
  exact s2.op2 hf (r1.mono n2.han n2.fr) r2 h2
theorem tst_go {K : PySem.W.Frag} {io : Io} {F : Hp} {S : Sto} {H : Hp} {d : Vl} {v : V} {Q : Bool → Hp → Prop} {E : XK} (st : Sta K io F S H) (r1 : RepV K io F d v) (h : RG K RepB (tst d S) io F H Q E) : ∃ k, v = .bl k ∧ Q k H := by
  cases d with
  | c k => exact h.elim
  | p x =>
    cases x with
    | bl b => exact ⟨b, r1, RG.val (R := RepB) (d := b) (v := b) st rfl h⟩
    | _ => exact h.elim
theorem ot_cmp {op : CmpOp} {r : R2} {f : P → P → Option P} (ho : OpR X (compareOp op) r) (hf : BinOk X.K r f) (ha : OE X W a ma) (hb : OE X W b mb) (hm : behindInMarks op b = false := by first | exact nomark _ | rfl) : OT X W (.Compare a [op] [b] pos) (tVal (eBin f ma mb)) := by
  obtain ⟨ta, pa, ha⟩ := ha
  obtain ⟨tb, pb, hb⟩ := hb
  refine ⟨tTest (tOp r ta tb), pt_cmpR ho pa pb hm, fun ρ S io F σ H Q st en h => ?_⟩
  have h : RG X.K RepB ((ma ρ S).bind fun x S1 => ((mb ρ S1).bind fun y S2 => op2 f x y S2).bind tst) io F H Q (fun c d H' => W c d σ H') := by
    unfold tVal eBin at h
    cases q : ma ρ S with
    | ok d S1 => rw [q] at h; exact h
    | exc c x S1 => rw [q] at h; exact h
    | bad => rw [q] at h; exact h
  refine ha ρ S io F σ H _ st en (RG.bind h fun d S1 io1 F1 H1 v e1 n1 s1 r1 h1 => ?_)
  have h1 : RG X.K RepB ((mb ρ S1).bind fun y S2 => (op2 f d y S2).bind tst) io1 F1 H1 Q (fun c d H' => W c d σ H') := by
    cases q : mb ρ S1 with
    | ok d S1 => rw [q] at h1; exact h1
    | exc c x S1 => rw [q] at h1; exact h1
    | bad => rw [q] at h1; exact h1
  refine hb ρ S1 io1 F1 σ H1 _ s1 (en.nxt n1) (RG.bind h1 fun d2 S2 io2 F2 H2 v2 e2 n2 s2 r2 h2 => ?_)
  refine s2.op2 (E := fun c d H' => W c d σ H') hf (r1.mono n2.han n2.fr) r2 (RG.bind h2 fun d3 S3 io3 F3 H3 v3 e3 n3 s3 r3 h3 => ?_)
  exact tst_go s3 r3 h3
theorem ot_val {e : Expr} {m : ME} (he : OE X W e m) (hs : ∀ whole, isTrue e X.env whole = (do let v ← whole; standAt e.pos; holding [v] (truthy v)) := by intro _; rfl) : OT X W e (tVal m) := by
  obtain ⟨t, p, he⟩ := he
  refine ⟨tB t, pt_val p hs, fun ρ S io F σ H Q st en h => ?_⟩
  exact he ρ S io F σ H _ st en (RG.bind h fun d S1 io1 F1 H1 v e1 n1 s1 r1 h1 => tst_go s1 r1 h1)
theorem ot_not (ha : OT X W a ta) : OT X W (.UnaryOp .Not a pos) (tNotM ta) := by
  obtain ⟨t, p, ha⟩ := ha
  refine ⟨_, pt_not p, fun ρ S io F σ H Q st en h => ?_⟩
  refine ha ρ S io F σ H _ st en (RG.bind h fun d S1 io1 F1 H1 v e1 n1 s1 r1 h1 => ?_)
  cases r1
  exact RG.val (R := RepB) (d := !d) (v := !d) s1 rfl h1
def OW (X : Cx) (W : WX) (e : Expr) (m : MT) : Prop := ∃ t, PW X e t ∧ ∀ (ρ : En) (S : Sto) (io : Io) (F : Hp) (σ : St) (H : Hp) (Q : Bool → Hp → Prop), Sta X.K io F S H → Mir.Env X.K io F ρ σ →
  RG X.K RepB (m ρ S) io F H Q (fun c d H' => W c d σ H') → t σ H Q
theorem ot_w {e : Expr} {m : MT} (h : OW X W e m) : OT X W e m := by
  obtain ⟨t, p, h⟩ := h
  exact ⟨t, p.pt, h⟩
theorem ow_and1 (ha : OT X W a ta) : OW X W (.BoolOp .And [a] pos) ta := by
  obtain ⟨t, p, ha⟩ := ha
  exact ⟨t, pw_and1 p, ha⟩
theorem ow_or1 (ha : OT X W a ta) : OW X W (.BoolOp .Or [a] pos) ta := by
  obtain ⟨t, p, ha⟩ := ha
  exact ⟨t, pw_or1 p, ha⟩
theorem ow_and {rest : List Expr} (ha : OT X W a ta) (hb : OW X W (.BoolOp .And (b :: rest) pos) tb) : OW X W (.BoolOp .And (a :: b :: rest) pos) (tAndM ta tb) := by
  obtain ⟨t, p, ha⟩ := ha
  obtain ⟨u, q, hb⟩ := hb
  refine ⟨_, pw_and p q, fun ρ S io F σ H Q st en h => ?_⟩
  refine ha ρ S io F σ H _ st en (RG.bind h fun d S1 io1 F1 H1 v e1 n1 s1 r1 h1 => ?_)
  cases r1
  cases d with
  | true => exact iteT (hb ρ S1 io1 F1 σ H1 Q s1 (en.nxt n1) h1)
  | false => exact iteF (RG.val (R := RepB) (d := false) (v := false) s1 rfl h1)
theorem ow_or {rest : List Expr} (ha : OT X W a ta) (hb : OW X W (.BoolOp .Or (b :: rest) pos) tb) : OW X W (.BoolOp .Or (a :: b :: rest) pos) (tOrM ta tb) := by
  obtain ⟨t, p, ha⟩ := ha
  obtain ⟨u, q, hb⟩ := hb
  refine ⟨_, pw_or p q, fun ρ S io F σ H Q st en h => ?_⟩
  refine ha ρ S io F σ H _ st en (RG.bind h fun d S1 io1 F1 H1 v e1 n1 s1 r1 h1 => ?_)
  cases r1
  cases d with
  | true => exact iteT (RG.val (R := RepB) (d := true) (v := true) s1 rfl h1)
  | false => exact iteF (hb ρ S1 io1 F1 σ H1 Q s1 (en.nxt n1) h1)
theorem oe_one {op} (ha : OE X W a ma) : OE X W (.BoolOp op [a] pos) ma := by
  obtain ⟨t, p, ha⟩ := ha
  exact ⟨t, pe_one p, ha⟩
theorem tst_bind {K : PySem.W.Frag} {io : Io} {F : Hp} {S : Sto} {H : Hp} {d : Vl} {v : V} {g : Bool → Sto → Res Vl} {Q : VK} {E : XK} (r1 : RepV K io F d v) (h : RG K (RepA K) ((tst d S).bind g) io F H Q E) : ∃ c, d = .p (.bl c) ∧ v = .bl c ∧ RG K (RepA K) (g c S) io F H Q E := by
  cases d with
  | c k => exact h.elim
  | p x =>
    cases x with
    | bl b => exact ⟨b, rfl, r1, h⟩
    | _ => exact h.elim
theorem oe_and {rest : List Expr} (ha : OE X W a ma) (hb : OE X W (.BoolOp .And (b :: rest) pos) mb) : OE X W (.BoolOp .And (a :: b :: rest) pos) (eAndM ma mb) := by
  obtain ⟨t, p, ha⟩ := ha
  obtain ⟨u, q, hb⟩ := hb
  refine ⟨_, pe_and p q, fun ρ S io F σ H Q st en h => ?_⟩
  refine ha ρ S io F σ H _ st en (RG.bind h fun d S1 io1 F1 H1 v e1 n1 s1 r1 h1 => ?_)
  obtain ⟨c, _, hv, h2⟩ := tst_bind r1 h1
  refine ⟨c, hv, ?_⟩
  cases c with
  | true => exact iteT (hb ρ S1 io1 F1 σ H1 Q s1 (en.nxt n1) h2)
  | false => exact iteF (RG.val (R := RepA X.K) (d := .p (.bl false)) s1 rfl h2)
theorem oe_or {rest : List Expr} (ha : OE X W a ma) (hb : OE X W (.BoolOp .Or (b :: rest) pos) mb) : OE X W (.BoolOp .Or (a :: b :: rest) pos) (eOrM ma mb) := by
  obtain ⟨t, p, ha⟩ := ha
  obtain ⟨u, q, hb⟩ := hb
  refine ⟨_, pe_or p q, fun ρ S io F σ H Q st en h => ?_⟩
  refine ha ρ S io F σ H _ st en (RG.bind h fun d S1 io1 F1 H1 v e1 n1 s1 r1 h1 => ?_)
  obtain ⟨c, _, hv, h2⟩ := tst_bind r1 h1
  refine ⟨c, hv, ?_⟩
  cases c with
  | true => exact iteT (RG.val (R := RepA X.K) (d := .p (.bl true)) s1 rfl h2)
  | false => exact iteF (hb ρ S1 io1 F1 σ H1 Q s1 (en.nxt n1) h2)
theorem oe_not (ha : OE X W a ma) : OE X W (.UnaryOp .Not a pos) (eNotM ma) := by
  obtain ⟨t, p, ha⟩ := ha
  refine ⟨_, pe_not p, fun ρ S io F σ H Q st en h => ?_⟩
  refine ha ρ S io F σ H _ st en (RG.bind h fun d S1 io1 F1 H1 v e1 n1 s1 r1 h1 => ?_)
  obtain ⟨c, _, hv, h2⟩ := tst_bind r1 h1
  exact ⟨c, hv, RG.val (R := RepA X.K) (d := .p (.bl (!c))) s1 rfl h2⟩
theorem oe_if (hc : OT X W c ta) (ha : OE X W a ma) (hb : OE X W b mb) : OE X W (.IfExp c a b pos) (eIfM ta ma mb) := by
  obtain ⟨t, p, hc⟩ := hc
  obtain ⟨u, q, ha⟩ := ha
  obtain ⟨u2, q2, hb⟩ := hb
  refine ⟨_, pe_ifExp p q q2, fun ρ S io F σ H Q st en h => ?_⟩
  refine hc ρ S io F σ H _ st en (RG.bind h fun d S1 io1 F1 H1 v e1 n1 s1 r1 h1 => ?_)
  cases r1
  cases d with
  | true => exact iteT (ha ρ S1 io1 F1 σ H1 Q s1 (en.nxt n1) h1)
  | false => exact iteF (hb ρ S1 io1 F1 σ H1 Q s1 (en.nxt n1) h1)
theorem oe_un {op : UnaryOp} {r : V → Hp → VK → Prop} {f : P → Option P} (ho : UnR X (unaryOp op) r) (hf : UnOk X.K r f) (ha : OE X W a ma) : OE X W (.UnaryOp op a pos) (eUn f ma) := by
  obtain ⟨t, p, ha⟩ := ha
  refine ⟨_, pe_un ho p, fun ρ S io F σ H Q st en h => ?_⟩
  exact ha ρ S io F σ H _ st en (RG.bind h fun d S1 io1 F1 H1 v e1 n1 s1 r1 h1 => s1.op1 hf r1 h1)
theorem oa_nil : OA X W [] aNil := ⟨_, pa_nil, fun ρ S io F σ H Q st en h => RG.val (R := RepAs X.K) (d := []) (v := []) st rfl h⟩
theorem oa_cons (ha : OE X W a ma) (hr : OA X W es mas) (hs : starEach (a :: es) X.env = (false, eval a X.env) :: starEach es X.env := by rfl) : OA X W (a :: es) (aCons ma mas) := by
  obtain ⟨t, p, ha⟩ := ha
  obtain ⟨u, q, hr⟩ := hr
  refine ⟨_, pa_cons p q hs, fun ρ S io F σ H Q st en h => ?_⟩
  refine ha ρ S io F σ H _ st en (RG.bind h fun d S1 io1 F1 H1 v e1 n1 s1 r1 h1 => ?_)
  refine hr ρ S1 io1 F1 σ H1 _ s1 (en.nxt n1) (RG.bind h1 fun d2 S2 io2 F2 H2 v2 e2 n2 s2 r2 h2 => ?_)
  exact RG.val (R := RepAs X.K) (d := d :: d2) s2 ⟨v, v2, rfl, r1.mono n2.han n2.fr, r2⟩ h2
end
section
variable {K : PySem.W.Frag} {io : Io} {F : Hp} {S : Sto} {H : Hp}
def FrzOk (K : PySem.W.Frag) (H : Hp) (io : Io) (f : Vl → Sto → Res P) : Prop := ∀ (F : Hp) (S S' : Sto) (d : Vl) (v : V) (x : P), Sta K io F S H → RepV K io F d v → f d S = .ok x S' → ∃ F', Nxt io F H io F' H ∧ Sta K io F' S' H ∧ Rep K F' x v
theorem FrzOk.seq {f : Vl → Sto → Res P} (hf : FrzOk K H io f) : ∀ {ds : List Vl} {vs : List V} {F : Hp} {S S' : Sto} {xs : List P}, Sta K io F S H → RepVs K io F ds vs → seqR f ds S = .ok xs S' → ∃ F', Nxt io F H io F' H ∧ Sta K io F' S' H ∧ RepL K F' xs vs
  | [], vs, F, S, S', xs, st, r, e => by
    cases e
    have r' : _ = _ := r
    subst r'
    exact ⟨F, Nxt.refl, st, .nil⟩
  | d :: ds, vs, F, S, S', xs, st, ⟨v, r, e1, h1, h2⟩, e => by
    subst e1
    have e : ((f d S).bind fun y S1 => (seqR f ds S1).bind fun ys S2 => Res.ok (y :: ys) S2) = .ok xs S' := e
    cases q : f d S with
    | bad => rw [q] at e; cases e
    | exc c x S1 => rw [q] at e; cases e
    | ok y S1 =>
      rw [q] at e
      have e : ((seqR f ds S1).bind fun ys S2 => Res.ok (y :: ys) S2) = .ok xs S' := e
      obtain ⟨F1, n1, s1, rp⟩ := hf _ _ _ _ _ _ st h1 q
      cases q2 : seqR f ds S1 with
      | bad => rw [q2] at e; cases e
      | exc c x S2 => rw [q2] at e; cases e
      | ok ys S2 =>
        rw [q2] at e
        cases e
        obtain ⟨F2, n2, s2, rps⟩ := FrzOk.seq hf s1 (h2.mono n1.han n1.fr) q2
        exact ⟨F2, n1.trans n2, s2, .cons (Rep.mono n2.fr rp) rps⟩
theorem frzN_ok : ∀ n, FrzOk K H io (frzN n)
  | 0 => fun F S S' d v x st r e => by
    cases d with
    | p y => cases e; exact ⟨F, Nxt.refl, st, r⟩
    | c k => cases e
  | n + 1 => fun F S S' d v x st r e => by
    cases d with
    | p y => cases e; exact ⟨F, Nxt.refl, st, r⟩
    | c k =>
      obtain ⟨a, ha, rfl⟩ := r
      unfold frzN at e
      dsimp only at e
      cases hk : S[k]? with
      | none => rw [hk] at e; cases e
      | some c =>
        rw [hk] at e
        cases c with
        | lst xs =>
          cases e
          obtain ⟨b, vs, hb, hF, hH, hr⟩ := st.cel k _ hk
          rw [ha] at hb
          cases hb
          have rp : Rep K (upd F a (.lst vs)) (.lst xs) (.ref a) := ⟨a, vs, rfl, upd_same, RepL.mono (upd_same_of hF) hr⟩
          obtain ⟨s2, n2⟩ := st.freeze ha hF hH rp
          exact ⟨_, n2, s2, rp⟩
        | dct ks xs =>
          cases e
          obtain ⟨b, vs, hb, hF, hH, hr, hr2⟩ := st.cel k _ hk
          rw [ha] at hb
          cases hb
          have rp : Rep K (upd F a (.dK vs)) (.dct ks xs) (.ref a) := ⟨a, vs, rfl, upd_same, RepL.mono (upd_same_of hF) hr, RepL.mono (upd_same_of hF) hr2⟩
          obtain ⟨s2, n2⟩ := st.freeze ha hF hH rp
          exact ⟨_, n2, s2, rp⟩
        | fz y =>
          cases e
          obtain ⟨b, hb, hr⟩ := st.cel k _ hk
          rw [ha] at hb
          cases hb
          exact ⟨F, Nxt.refl, st, hr⟩
        | tup ys =>
          cases e
          obtain ⟨b, vs, hb, hF, hr⟩ := st.cel k _ hk
          rw [ha] at hb
          cases hb
          exact ⟨F, Nxt.refl, st, a, vs, rfl, SqT.of hF, hr⟩
        | tpz ys =>
          cases e
          obtain ⟨b, vs, o, hb, hF, _, _, hr⟩ := st.cel k _ hk
          rw [ha] at hb
          cases hb
          exact ⟨F, Nxt.refl, st, a, vs, rfl, .inl (.inr ⟨o, hF⟩), hr⟩
        | dcT ks ys => cases e
        | dcN η ks ys => cases e
        | tbl p q => cases e
        | dvs _ => cases e
        | tblC _ _ _ => cases e
        | lsv xs =>
          dsimp only at e
          obtain ⟨b, vs, hb, hF, hH, hr, _⟩ := st.cel k _ hk
          rw [ha] at hb
          cases hb
          cases q : seqR (frzN n) xs S with
          | bad => rw [q] at e; cases e
          | exc c x S2 => rw [q] at e; cases e
          | ok ys S2 =>
            rw [q] at e
            have e : (match S2[k]? with
              | some (.lsv _) => Res.ok (P.lst ys) (S2.set k (.fz (.lst ys)))
              | _ => .bad) = .ok x S' := e
            obtain ⟨F3, n3, s3, rps⟩ := FrzOk.seq (frzN_ok n) st hr q
            split at e
            · rename_i xs' hk'
              cases e
              obtain ⟨b, vs', hb, hF', hH', _⟩ := s3.cel k _ hk'
              rw [ha] at hb
              cases hb
              rw [hH] at hH'
              cases hH'
              have rp : Rep K (upd F3 a (.lst vs)) (.lst ys) (.ref a) := ⟨a, vs, rfl, upd_same, RepL.mono (upd_same_of hF') rps⟩
              obtain ⟨s2, n2⟩ := s3.freeze ha hF' hH rp
              exact ⟨_, n3.trans n2, s2, rp⟩
            · cases e
        | ins cc ns xs =>
          dsimp only at e
          obtain ⟨b, dx, gs, hb, hF, hH, hn, hr, _⟩ := st.cel k _ hk
          rw [ha] at hb
          cases hb
          cases q : seqR (frzN n) xs S with
          | bad => rw [q] at e; cases e
          | exc c x S2 => rw [q] at e; cases e
          | ok ys S2 =>
            rw [q] at e
            have e : (match S2[k]? with
              | some (.ins c' ns' _) => if c' = cc ∧ ns' = ns then Res.ok (P.obj cc ns ys) (S2.set k (.fz (.obj cc ns ys))) else .bad
              | _ => .bad) = .ok x S' := e
            obtain ⟨F3, n3, s3, rps⟩ := FrzOk.seq (frzN_ok n) st hr q
            split at e
            · rename_i c' ns' xs' hk'
              split at e
              · rename_i hcn
                cases e
                obtain ⟨b, dx', gs', hb, hF', hH', _⟩ := s3.cel k _ hk'
                rw [ha] at hb
                cases hb
                have rp : Rep K (upd F3 a (.ins (He.ga K cc) dx gs)) (.obj cc ns ys) (.ref a) := ⟨a, dx, gs, rfl, upd_same, hn, RepL.mono (upd_same_of hF') rps⟩
                obtain ⟨s2, n2⟩ := s3.freeze ha hF' hH rp
                exact ⟨_, n3.trans n2, s2, rp⟩
              · cases e
            · cases e
        | res => cases e
theorem Sta.frz (st : Sta K io F S H) {d : Vl} {v : V} {C D : Type} {R' : Io → Hp → C → D → Prop} {g : P → Sto → Res C} {Q : D → Hp → Prop} {E : XK} (r1 : RepV K io F d v) (h : RG K R' ((Mir.frz d S).bind g) io F H Q E) :
    ∃ x S' F', Nxt io F H io F' H ∧ Sta K io F' S' H ∧ Rep K F' x v ∧ Mir.frz d S = .ok x S' ∧ RG K R' (g x S') io F' H Q E := by
  cases q : Mir.frz d S with
  | bad => rw [q] at h; exact h.elim
  | exc c x S1 => exact absurd q (frz_nox _ _ _ _ _)
  | ok x S1 =>
    rw [q] at h
    obtain ⟨F1, n1, s1, rp⟩ := frzN_ok 3 _ _ _ _ _ _ st r1 q
    exact ⟨x, S1, F1, n1, s1, rp, rfl, RG.step n1 h⟩
theorem Sta.frzs {C D : Type} {R' : Io → Hp → C → D → Prop} {Q : D → Hp → Prop} {E : XK} : ∀ {ds : List Vl} {vs : List V} {F : Hp} {S : Sto} {g : List P → Sto → Res C}, Sta K io F S H → RepVs K io F ds vs → RG K R' ((Mir.frzs ds S).bind g) io F H Q E →
    ∃ xs S' F', Nxt io F H io F' H ∧ Sta K io F' S' H ∧ RepL K F' xs vs ∧ RG K R' (g xs S') io F' H Q E
  | [], vs, F, S, g, st, r, h => by
    have r' : _ = _ := r
    subst r'
    exact ⟨[], S, F, Nxt.refl, st, .nil, h⟩
  | d :: ds, vs, F, S, g, st, ⟨v, r, e1, h1, h2⟩, h => by
    subst e1
    have h : RG K R' ((Mir.frz d S).bind fun y S1 => ((Mir.frzs ds S1).bind fun ys S2 => Res.ok (y :: ys) S2).bind g) io F H Q E := by
      have q : (Mir.frzs (d :: ds) S).bind g = (Mir.frz d S).bind fun y S1 => ((Mir.frzs ds S1).bind fun ys S2 => Res.ok (y :: ys) S2).bind g := by
        show ((Mir.frz d S).bind fun y S1 => (Mir.frzs ds S1).bind fun ys S2 => Res.ok (y :: ys) S2).bind g = _
        cases Mir.frz d S <;> rfl
      rw [← q]; exact h
    obtain ⟨x, S1, F1, n1, s1, rp, hl, h3⟩ := st.frz h1 h
    have h3 : RG K R' ((Mir.frzs ds S1).bind fun ys S2 => g (x :: ys) S2) io F1 H Q E := by
      have q : (Mir.frzs ds S1).bind (fun ys S2 => g (x :: ys) S2) = ((Mir.frzs ds S1).bind fun ys S2 => Res.ok (x :: ys) S2).bind g := by
        cases Mir.frzs ds S1 <;> rfl
      rw [q]; exact h3
    obtain ⟨xs, S2, F2, n2, s2, rps, h4⟩ := Sta.frzs s1 (h2.mono n1.han n1.fr) h3
    exact ⟨x :: xs, S2, F2, n1.trans n2, s2, .cons (Rep.mono n2.fr rp) rps, h4⟩
end
section
variable {X : Cx} {W : WX} {pos : Pos} {es : List Expr} {mas : MA}
theorem sz5 {n : Nat} (h : n ≤ 100000) : n ≤ sizeLine := Nat.le_trans h (by decide)
theorem sz5l {n : Nat} (h : n < 100000) : n < sizeLine := Nat.lt_of_lt_of_le h (by decide)
theorem oe_tup {k : Nat} (h : OA X W es mas) : OE X W (.Tuple es k pos) (eTup mas) := by
  obtain ⟨t, p, h⟩ := h
  refine ⟨_, pe_tup p, fun ρ S io F σ H Q st en hw => ?_⟩
  refine h ρ S io F σ H _ st en (RG.bind hw fun d S1 io1 F1 H1 v e1 n1 s1 r1 h1 => ?_)
  obtain ⟨xs, S2, F2, n2, s2, rp, h2⟩ := s1.frzs r1 h1
  have hlen := rp.length
  by_cases hz : xs.length ≤ 100000
  · rw [if_pos hz] at h2
    refine ⟨by rw [hlen]; exact sz5 hz, fun q hq => ?_⟩
    obtain ⟨s3, n3⟩ := s2.froze (o := .tup v) hq
    exact h2 io1 _ _ (.ref q) n3 s3 ⟨q, v, rfl, SqT.of upd_same, RepL.mono n3.fr rp⟩
  · rw [if_neg hz] at h2
    exact h2.elim
theorem oe_lst (h : OA X W es mas) : OE X W (.List es pos) (eLst mas) := by
  obtain ⟨t, p, h⟩ := h
  refine ⟨_, pe_lst p, fun ρ S io F σ H Q st en hw => ?_⟩
  refine h ρ S io F σ H _ st en (RG.bind hw fun d S1 io1 F1 H1 v e1 n1 s1 r1 h1 => ?_)
  obtain ⟨xs, S2, F2, n2, s2, rp, h2⟩ := s1.frzs r1 h1
  have hlen := rp.length
  by_cases hz : xs.length ≤ 100000
  · rw [if_pos hz] at h2
    refine ⟨by rw [hlen]; exact sz5 hz, fun q hq => ?_⟩
    obtain ⟨s3, n3⟩ := s2.froze (o := .lst v) hq
    exact h2 io1 _ _ (.ref q) n3 s3 ⟨q, v, rfl, upd_same, RepL.mono n3.fr rp⟩
  · rw [if_neg hz] at h2
    exact h2.elim
theorem oe_lstC (h : OA X W es mas) : OE X W (.List es pos) (eLstC mas) := by
  obtain ⟨t, p, h⟩ := h
  refine ⟨_, pe_lst p, fun ρ S io F σ H Q st en hw => ?_⟩
  refine h ρ S io F σ H _ st en (RG.bind hw fun d S1 io1 F1 H1 v e1 n1 s1 r1 h1 => ?_)
  obtain ⟨xs, S2, F2, n2, s2, rp, h2⟩ := s1.frzs r1 h1
  have hlen := rp.length
  by_cases hz : xs.length ≤ 100000
  · rw [if_pos hz] at h2
    refine ⟨by rw [hlen]; exact sz5 hz, fun q hq => ?_⟩
    have hi : (io1 ++ [some q])[S2.length]? = some (some q) := by rw [← s2.len]; simp
    obtain ⟨s3, n3⟩ := s2.push (o := .lst v) (c := .lst xs) hq ⟨q, v, hi, Same.free s2.sub hq, upd_same, rp⟩
    exact h2 _ _ _ (.ref q) n3 s3 ⟨q, hi, rfl⟩
  · rw [if_neg hz] at h2
    exact h2.elim
end
end Mir

namespace Mir
open PySem L2
mutual
def P.dat : P → Nat → Bool
  | .non, _ => true
  | .bl _, _ => true
  | .int _, _ => true
  | .str x, _ => x.all fun c => decide (c < 128)
  | .lst _, 0 => false
  | .lst xs, n + 1 => datL xs n
  | .tup _, 0 => false
  | .tup xs, n + 1 => datL xs n
  | _, _ => false
def datL : List P → Nat → Bool
  | [], _ => true
  | x :: xs, n => x.dat n && datL xs n
end
mutual
def P.toD : P → PyData
  | .non => .none
  | .bl b => .bool b
  | .int i => .int i
  | .str x => .str (strOf x)
  | .lst xs => .list (toDL xs)
  | .tup xs => .tuple (toDL xs)
  | .dct _ _ => .none
  | .obj _ _ _ => .none
  | .ty _ => .none
  | .glo _ => .none
  | .raw _ => .none
  | .rwp _ _ => .none
  | .scr _ => .none
def toDL : List P → List PyData
  | [] => []
  | x :: xs => x.toD :: toDL xs
end
mutual
def P.eqv : P → P → Bool
  | .non, .non => true
  | .bl a, .bl b => a == b
  | .bl a, .int j => (if a then 1 else 0) == j
  | .int i, .bl b => i == (if b then 1 else 0)
  | .int i, .int j => i == j
  | .str x, .str y => x == y
  | .lst xs, .lst ys => eqvL xs ys
  | .tup xs, .tup ys => eqvL xs ys
  | _, _ => false
def eqvL : List P → List P → Bool
  | [], [] => true
  | x :: xs, y :: ys => x.eqv y && eqvL xs ys
  | _, _ => false
end
section
variable {K : PySem.W.Frag} {F H : Hp}
mutual
theorem Rep.dp : ∀ {x : P} {v : V} {n : Nat}, x.dat n = true → Rep K H x v → Dp K H v x.toD
  | .non, v, n, _, h => by
    have h' : _ = _ := h
    subst h'
    exact .non
  | .bl b, v, n, _, h => by
    have h' : _ = _ := h
    subst h'
    exact .bl b
  | .int b, v, n, _, h => by
    have h' : _ = _ := h
    subst h'
    exact .int b
  | .str b, v, n, _, h => by
    have h' : _ = _ := h
    subst h'
    exact .str _
  | .lst xs, v, n + 1, hd, h => by
    obtain ⟨a, vs, rfl, h1, h2⟩ := h
    exact .lst (SqL.of h1) (RepL.dp hd h2)
  | .tup xs, v, n + 1, hd, h => by
    obtain ⟨a, vs, rfl, h1, h2⟩ := h
    exact .tup h1 (RepL.dp hd h2)
  | .lst xs, v, 0, hd, h => by cases hd
  | .tup xs, v, 0, hd, h => by cases hd
  | .dct _ _, v, n, hd, h => by cases hd
  | .obj _ _ _, v, n, hd, h => by cases hd
  | .ty _, v, n, hd, h => by cases hd
  | .glo _, v, n, hd, h => by cases hd
  | .raw _, v, n, hd, h => by cases hd
  | .rwp _ _, v, n, hd, h => by cases hd
  | .scr _, v, n, hd, h => by cases hd
theorem RepL.dp : ∀ {xs : List P} {vs : List V} {n : Nat}, datL xs n = true → RepL K H xs vs → DpAll K H vs (toDL xs)
  | [], vs, n, _, h => by
    have h' : _ = _ := h
    subst h'
    exact .nil
  | x :: xs, vs, n, hd, h => by
    obtain ⟨v, r, e1, h1, h2⟩ := h
    subst e1
    have hd' : (x.dat n && datL xs n) = true := hd
    rw [Bool.and_eq_true] at hd'
    exact .cons (Rep.dp hd'.1 h1) (RepL.dp hd'.2 h2)
end
theorem strOk_of {x : List Nat} (h : (x.all fun c => decide (c < 128)) = true) : (P.str x).toD.canLay0 = true := by
  show PyData.canLay0 (.str (strOf x)) = true
  simp only [PyData.canLay0]
  unfold PyData.strOk strOf
  simp only [List.all_eq_true, decide_eq_true_eq] at h
  simp only [List.all_toArray, List.all_eq_true, decide_eq_true_eq]
  exact fun c hc => Nat.lt_trans (h c hc) (by decide)
mutual
theorem P.lay : ∀ {x : P} {n : Nat}, x.dat n = true → x.toD.canLay0 = true
  | .non, n, _ => rfl
  | .bl b, n, _ => rfl
  | .int b, n, _ => rfl
  | .str b, n, h => strOk_of h
  | .lst xs, n + 1, hd => by
    show PyData.canLay0 (.list (toDL xs)) = true
    simp only [PyData.canLay0]
    exact layL hd
  | .tup xs, n + 1, hd => by
    show PyData.canLay0 (.tuple (toDL xs)) = true
    simp only [PyData.canLay0]
    exact layL hd
  | .lst xs, 0, hd => by cases hd
  | .tup xs, 0, hd => by cases hd
  | .dct _ _, n, hd => by cases hd
  | .obj _ _ _, n, hd => by cases hd
  | .ty _, n, hd => by cases hd
  | .glo _, n, hd => by cases hd
  | .raw _, n, hd => by cases hd
  | .rwp _ _, n, hd => by cases hd
  | .scr _, n, hd => by cases hd
theorem layL : ∀ {xs : List P} {n : Nat}, datL xs n = true → PyData.canLayAll0 (toDL xs) = true
  | [], n, _ => rfl
  | x :: xs, n, hd => by
    have hd' : (x.dat n && datL xs n) = true := hd
    rw [Bool.and_eq_true] at hd'
    show PyData.canLayAll0 (x.toD :: toDL xs) = true
    simp only [PyData.canLayAll0, Bool.and_eq_true]
    exact ⟨P.lay hd'.1, layL hd'.2⟩
end
mutual
theorem P.dep : ∀ {x : P} {n : Nat}, x.dat n = true → x.toD.depth ≤ n
  | .non, n, _ => Nat.zero_le _
  | .bl b, n, _ => Nat.zero_le _
  | .int b, n, _ => Nat.zero_le _
  | .str b, n, _ => Nat.zero_le _
  | .lst xs, n + 1, hd => by
    show PyData.depth (.list (toDL xs)) ≤ n + 1
    have := depL (xs := xs) (n := n) hd
    simp only [PyData.depth]
    omega
  | .tup xs, n + 1, hd => by
    show PyData.depth (.tuple (toDL xs)) ≤ n + 1
    have := depL (xs := xs) (n := n) hd
    simp only [PyData.depth]
    omega
  | .lst xs, 0, hd => by cases hd
  | .tup xs, 0, hd => by cases hd
  | .dct _ _, n, hd => by cases hd
  | .obj _ _ _, n, hd => by cases hd
  | .ty _, n, hd => by cases hd
  | .glo _, n, hd => by cases hd
  | .raw _, n, hd => by cases hd
  | .rwp _ _, n, hd => by cases hd
  | .scr _, n, hd => by cases hd
theorem depL : ∀ {xs : List P} {n : Nat}, datL xs n = true → PyData.depthAll (toDL xs) ≤ n
  | [], n, _ => Nat.zero_le _
  | x :: xs, n, hd => by
    have hd' : (x.dat n && datL xs n) = true := hd
    rw [Bool.and_eq_true] at hd'
    have h1 := P.dep hd'.1
    have h2 := depL hd'.2
    show PyData.depthAll (x.toD :: toDL xs) ≤ n
    simp only [PyData.depthAll]
    omega
end
theorem P.shp {x : P} {n : Nat} (hn : n ≤ 64) (h : x.dat n = true) : SeqAt.shaped x.toD = true := by
  unfold SeqAt.shaped
  rw [P.lay h, decide_eq_true (Nat.le_trans (P.dep h) hn)]
  rfl
theorem strOf_beq (x y : List Nat) : (strOf x == strOf y) = (x == y) := by
  by_cases h : x = y
  · subst h; simp
  · have h1 : strOf x ≠ strOf y := fun q => h (by
      have q' := congrArg (fun z : Str => z.cps.toList) q
      simpa [strOf] using q')
    rw [beq_eq_false_iff_ne.mpr h1, beq_eq_false_iff_ne.mpr h]
mutual
theorem P.eqD : ∀ {x y : P} {n m : Nat}, x.dat n = true → y.dat m = true → PyData.eqv x.toD y.toD = x.eqv y
  | .non, y, n, m, h1, h2 => by cases y <;> first | rfl | (cases h2)
  | .bl a, y, n, m, h1, h2 => by cases y <;> first | rfl | (cases h2)
  | .int a, y, n, m, h1, h2 => by cases y <;> first | rfl | (cases h2)
  | .str a, y, n, m, h1, h2 => by
    cases y with
    | str b => exact strOf_beq a b
    | non => rfl
    | bl _ => rfl
    | int _ => rfl
    | lst _ => rfl
    | tup _ => rfl
    | _ => cases h2
  | .lst xs, y, n + 1, m, h1, h2 => by
    cases y with
    | lst ys =>
      cases m with
      | zero => cases h2
      | succ m => exact eqDL h1 h2
    | non => rfl
    | bl _ => rfl
    | int _ => rfl
    | str _ => rfl
    | tup _ => rfl
    | _ => cases h2
  | .tup xs, y, n + 1, m, h1, h2 => by
    cases y with
    | tup ys =>
      cases m with
      | zero => cases h2
      | succ m => exact eqDL h1 h2
    | non => rfl
    | bl _ => rfl
    | int _ => rfl
    | str _ => rfl
    | lst _ => rfl
    | _ => cases h2
  | .lst xs, y, 0, m, h1, h2 => by cases h1
  | .tup xs, y, 0, m, h1, h2 => by cases h1
  | .dct _ _, y, n, m, h1, h2 => by cases h1
  | .obj _ _ _, y, n, m, h1, h2 => by cases h1
  | .ty _, y, n, m, h1, h2 => by cases h1
  | .glo _, y, n, m, h1, h2 => by cases h1
  | .raw _, y, n, m, h1, h2 => by cases h1
  | .rwp _ _, y, n, m, h1, h2 => by cases h1
  | .scr _, y, n, m, h1, h2 => by cases h1
theorem eqDL : ∀ {xs ys : List P} {n m : Nat}, datL xs n = true → datL ys m = true → PyData.eqvAll (toDL xs) (toDL ys) = eqvL xs ys
  | [], [], n, m, _, _ => rfl
  | [], y :: ys, n, m, _, _ => rfl
  | x :: xs, [], n, m, _, _ => rfl
  | x :: xs, y :: ys, n, m, h1, h2 => by
    have h1' : (x.dat n && datL xs n) = true := h1
    have h2' : (y.dat m && datL ys m) = true := h2
    rw [Bool.and_eq_true] at h1' h2'
    show (PyData.eqv x.toD y.toD && PyData.eqvAll (toDL xs) (toDL ys)) = (x.eqv y && eqvL xs ys)
    rw [P.eqD h1'.1 h2'.1, eqDL h1'.2 h2'.2]
end
end
def pEq (x y : P) : Option P := if x.dat 60 && y.dat 60 then some (.bl (x.eqv y)) else none
def pNe (x y : P) : Option P := if x.dat 60 && y.dat 60 then some (.bl (!x.eqv y)) else none
section
variable {X : Cx} {W : WX} {a b c : Expr} {ma mb mc : ME} {pos : Pos}
theorem ok_eqD {K : PySem.W.Frag} : BinOk K (rEqD K) pEq := by
  intro io F S H x y v w z Q st rx ry e k
  unfold pEq at e
  split at e
  · rename_i hd
    rw [Bool.and_eq_true] at hd
    cases e
    refine ⟨x.toD, y.toD, Rep.dp hd.1 (rx.now st.sub), Rep.dp hd.2 (ry.now st.sub), P.shp (by decide) hd.1, P.shp (by decide) hd.2, ?_⟩
    rw [P.eqD hd.1 hd.2]
    exact k F H _ Nxt.refl st rfl
  · cases e
theorem ok_neD {K : PySem.W.Frag} : BinOk K (rNeD K) pNe := by
  intro io F S H x y v w z Q st rx ry e k
  unfold pNe at e
  split at e
  · rename_i hd
    rw [Bool.and_eq_true] at hd
    cases e
    refine ⟨x.toD, y.toD, Rep.dp hd.1 (rx.now st.sub), Rep.dp hd.2 (ry.now st.sub), P.shp (by decide) hd.1, P.shp (by decide) hd.2, ?_⟩
    rw [P.eqD hd.1 hd.2]
    exact k F H _ Nxt.refl st rfl
  · cases e
theorem oe_eq {k : Nat} (hr : Room k X.A) (ha : OE X W a ma) (hb : OE X W b mb) : OE X W (.Compare a [.Eq] [b] pos) (eBin pEq ma mb) := oe_cmp (op_eqD hr.units) ok_eqD ha hb (nomark _)
theorem oe_ne {k : Nat} (hr : Room k X.A) (ha : OE X W a ma) (hb : OE X W b mb) : OE X W (.Compare a [.NotEq] [b] pos) (eBin pNe ma mb) := oe_cmp (op_neD hr.units) ok_neD ha hb (nomark _)
theorem ot_eq {k : Nat} (hr : Room k X.A) (ha : OE X W a ma) (hb : OE X W b mb) : OT X W (.Compare a [.Eq] [b] pos) (tVal (eBin pEq ma mb)) := ot_cmp (op_eqD hr.units) ok_eqD ha hb (nomark _)
theorem ot_ne {k : Nat} (hr : Room k X.A) (ha : OE X W a ma) (hb : OE X W b mb) : OT X W (.Compare a [.NotEq] [b] pos) (tVal (eBin pNe ma mb)) := ot_cmp (op_neD hr.units) ok_neD ha hb (nomark _)
end
def int2 (f : Int → Int → Option P) (x y : P) : Option P := match x with
  | .int i => (match y with
    | .int j => f i j
    | _ => none)
  | _ => none
def pI (g : Int → Int → Int) : P → P → Option P := int2 fun i j => some (.int (g i j))
def pIC (C : Int → Int → Bool) (g : Int → Int → Int) : P → P → Option P := int2 fun i j => if C i j then some (.int (g i j)) else none
def pIB (g : Int → Int → Bool) : P → P → Option P := int2 fun i j => some (.bl (g i j))
section
variable {K : PySem.W.Frag} {F : Hp} {H : Hp}
theorem two_int {x y : P} {v w : V} {z : P} {f : Int → Int → Option P} (rx : RepR K F H x v) (ry : RepR K F H y w) (e : int2 f x y = some z) : ∃ i j, v = .int i ∧ w = .int j ∧ f i j = some z := by
  cases x with
  | int i =>
    cases y with
    | int j => exact ⟨i, j, rx, ry, e⟩
    | _ => cases e
  | _ => cases e
theorem ok_I0 {g : Int → Int → Int} : BinOk K (rI0 fun i j => .int (g i j)) (pI g) := by
  intro io F S H x y v w z Q st rx ry e k
  obtain ⟨i, j, rfl, rfl, e⟩ := two_int rx ry e
  cases e
  exact ⟨i, j, rfl, rfl, k F H _ Nxt.refl st rfl⟩
theorem ok_B0 {g : Int → Int → Bool} : BinOk K (rI0 fun i j => .bl (g i j)) (pIB g) := by
  intro io F S H x y v w z Q st rx ry e k
  obtain ⟨i, j, rfl, rfl, e⟩ := two_int rx ry e
  cases e
  exact ⟨i, j, rfl, rfl, k F H _ Nxt.refl st rfl⟩
theorem ok_IC {C : Int → Int → Prop} {B : Int → Int → Bool} {g : Int → Int → Int} (hB : ∀ i j, B i j = true → C i j) : BinOk K (rI C fun i j => .int (g i j)) (pIC B g) := by
  intro io F S H x y v w z Q st rx ry e k
  obtain ⟨i, j, rfl, rfl, e⟩ := two_int rx ry e
  split at e
  · rename_i hb
    cases e
    exact ⟨i, j, rfl, rfl, hB i j hb, k F H _ Nxt.refl st rfl⟩
  · cases e
end
def bMul (i j : Int) : Bool := (decide (-(2 ^ 64) < i) && decide (i < 2 ^ 64)) || (decide (-(2 ^ 64) < j) && decide (j < 2 ^ 64))
def bDiv (_ j : Int) : Bool := decide (0 < j) && decide (j < 1073741824)
def bPow (i j : Int) : Bool := decide (0 ≤ j) && (decide (j ≤ 1000000) && decide (i.natAbs < 2 ^ 64))
def bMod (_ j : Int) : Bool := decide (0 < j)
def bShr (_ j : Int) : Bool := decide (0 ≤ j)
theorem bMul_ok (i j : Int) (h : bMul i j = true) : CMul i j := by
  unfold bMul at h
  simp only [Bool.or_eq_true, Bool.and_eq_true, decide_eq_true_eq] at h
  exact h
theorem bDiv_ok (i j : Int) (h : bDiv i j = true) : CDiv i j := by
  unfold bDiv at h
  simp only [Bool.and_eq_true, decide_eq_true_eq] at h
  exact h
theorem bPow_ok (i j : Int) (h : bPow i j = true) : CPow i j := by
  unfold bPow at h
  simp only [Bool.and_eq_true, decide_eq_true_eq] at h
  exact h
def pAdd : P → P → Option P
  | .int i, .int j => some (.int (i + j))
  | .str x, .str y => if x.length + y.length ≤ 100000 then some (.str (x ++ y)) else none
  | .lst x, .lst y => if x.length + y.length ≤ 100000 then some (.lst (x ++ y)) else none
  | .tup x, .tup y => if x.length + y.length ≤ 100000 then some (.tup (x ++ y)) else none
  | _, _ => none
def rAddAny (K : PySem.W.Frag) : R2 := fun x y H Q => ((rI0 fun i j => .int (i + j)) x y H Q ∨ (fun x y H Q => ∃ i j, x = V.str i ∧ y = V.str j ∧ i.length + j.length ≤ sizeLine ∧ Q (V.str (i ++ j)) H) x y H Q) ∨ (rCat x y H Q ∨ rCatA K x y H Q)
theorem op_addAny {X : Cx} : OpR X (binaryOp .Add) (rAddAny X.K) := OpR.or (OpR.or op_add op_add_str) (OpR.or op_cat op_catA)
theorem strOf_length (x : List Nat) : (strOf x).length = x.length := by
  show x.toArray.size = x.length
  simp
theorem strOf_append (x y : List Nat) : strOf x ++ strOf y = strOf (x ++ y) := by
  show (⟨x.toArray ++ y.toArray⟩ : Str) = ⟨(x ++ y).toArray⟩
  simp
section
variable {K : PySem.W.Frag}
theorem ok_add : BinOk K (rAddAny K) pAdd := by
  intro io F S H x y v w z Q st rx ry e k
  cases x with
  | int i =>
    cases y with
    | int j =>
      cases e
      have rx : _ = _ := rx
      have ry : _ = _ := ry
      subst rx; subst ry
      exact .inl (.inl ⟨i, j, rfl, rfl, k F H _ Nxt.refl st rfl⟩)
    | _ => cases e
  | str i =>
    cases y with
    | str j =>
      have e : (if i.length + j.length ≤ 100000 then some (P.str (i ++ j)) else none) = some z := e
      split at e
      · rename_i hz
        cases e
        have rx : _ = _ := rx
        have ry : _ = _ := ry
        subst rx; subst ry
        refine .inl (.inr ⟨_, _, rfl, rfl, by rw [strOf_length, strOf_length]; exact sz5 hz, ?_⟩)
        rw [strOf_append]
        exact k F H _ Nxt.refl st rfl
      · cases e
    | _ => cases e
  | lst i =>
    cases y with
    | lst j =>
      have e : (if i.length + j.length ≤ 100000 then some (P.lst (i ++ j)) else none) = some z := e
      split at e
      · rename_i hz
        cases e
        obtain ⟨a, vs, rfl, ha, ra⟩ := rx
        obtain ⟨b, ws, rfl, hb, rb⟩ := ry
        refine .inr (.inl ⟨a, b, vs, ws, rfl, rfl, ha, hb, by rw [ra.length, rb.length]; exact sz5 hz, fun p hp => ?_⟩)
        obtain ⟨s3, n3⟩ := st.froze (o := .lst (vs ++ ws)) hp
        exact k _ _ _ n3 s3 ⟨p, _, rfl, upd_same, RepL.mono n3.fr (ra.append rb)⟩
      · cases e
    | _ => cases e
  | tup i =>
    cases y with
    | tup j =>
      have e : (if i.length + j.length ≤ 100000 then some (P.tup (i ++ j)) else none) = some z := e
      split at e
      · rename_i hz
        cases e
        obtain ⟨a, vs, rfl, ha, ra⟩ := rx
        obtain ⟨b, ws, rfl, hb, rb⟩ := ry
        have l1 := ra.length
        have l2 := rb.length
        refine .inr (.inr ⟨a, b, vs, ws, rfl, rfl, sqt_mono st.sub ha, sqt_mono st.sub hb, by rw [l1, l2]; exact sz5 hz, fun h0 => ?_, fun h0 h1 => ?_, fun h0 h1 p hp => ?_⟩)
        · subst h0
          have : i = [] := List.length_eq_zero_iff.mp l1.symm
          subst this
          exact k F H _ Nxt.refl st ⟨b, ws, rfl, hb, rb⟩
        · subst h1
          have : j = [] := List.length_eq_zero_iff.mp l2.symm
          subst this
          rw [List.append_nil] at k
          exact k F H _ Nxt.refl st ⟨a, vs, rfl, ha, ra⟩
        · obtain ⟨s3, n3⟩ := st.froze (o := .tup (vs ++ ws)) hp
          exact k _ _ _ n3 s3 ⟨p, _, rfl, SqT.of upd_same, RepL.mono n3.fr (ra.append rb)⟩
      · cases e
    | _ => cases e
  | _ => cases e
end
section
variable {X : Cx} {W : WX} {a b c : Expr} {ma mb mc : ME} {pos : Pos}
theorem oe_add (ha : OE X W a ma) (hb : OE X W b mb) : OE X W (.BinOp a .Add b pos) (eBin pAdd ma mb) := oe_bin op_addAny ok_add ha hb
theorem oe_sub (ha : OE X W a ma) (hb : OE X W b mb) : OE X W (.BinOp a .Sub b pos) (eBin (pI fun i j => i - j) ma mb) := oe_bin op_sub ok_I0 ha hb
theorem oe_fdiv (ha : OE X W a ma) (hb : OE X W b mb) : OE X W (.BinOp a .FloorDiv b pos) (eBin (pIC bDiv fun i j => i / j) ma mb) := oe_bin op_fdiv (ok_IC bDiv_ok) ha hb
theorem oe_mod (ha : OE X W a ma) (hb : OE X W b mb) : OE X W (.BinOp a .Mod b pos) (eBin (pIC bMod fun i j => i % j) ma mb) := oe_bin op_mod (ok_IC fun _ _ h => of_decide_eq_true h) ha hb
theorem oe_pow (ha : OE X W a ma) (hb : OE X W b mb) : OE X W (.BinOp a .Pow b pos) (eBin (pIC bPow fun i j => i ^ j.toNat) ma mb) := oe_bin op_pow (ok_IC bPow_ok) ha hb
theorem oe_shl (ha : OE X W a ma) (hb : OE X W b mb) : OE X W (.BinOp a .LShift b pos) (eBin (pIC bPow fun i j => i * 2 ^ j.toNat) ma mb) := oe_bin op_shl (ok_IC bPow_ok) ha hb
theorem oe_shr (ha : OE X W a ma) (hb : OE X W b mb) : OE X W (.BinOp a .RShift b pos) (eBin (pIC bShr fun i j => i / 2 ^ j.toNat) ma mb) := oe_bin op_shr (ok_IC fun _ _ h => of_decide_eq_true h) ha hb
theorem oe_band (ha : OE X W a ma) (hb : OE X W b mb) : OE X W (.BinOp a .BitAnd b pos) (eBin (pI Builtin.bitAnd) ma mb) := oe_bin op_and ok_I0 ha hb
theorem oe_bor (ha : OE X W a ma) (hb : OE X W b mb) : OE X W (.BinOp a .BitOr b pos) (eBin (pI Builtin.bitOr) ma mb) := oe_bin op_or ok_I0 ha hb
theorem oe_lt (ha : OE X W a ma) (hb : OE X W b mb) : OE X W (.Compare a [.Lt] [b] pos) (eBin (pIB fun i j => decide (i < j)) ma mb) := oe_cmp op_lt ok_B0 ha hb (nomark _)
theorem oe_le (ha : OE X W a ma) (hb : OE X W b mb) : OE X W (.Compare a [.LtE] [b] pos) (eBin (pIB fun i j => decide (i ≤ j)) ma mb) := oe_cmp op_le ok_B0 ha hb (nomark _)
theorem oe_ge (ha : OE X W a ma) (hb : OE X W b mb) : OE X W (.Compare a [.GtE] [b] pos) (eBin (pIB fun i j => decide (j ≤ i)) ma mb) := oe_cmp op_ge ok_B0 ha hb (nomark _)
theorem ot_lt (ha : OE X W a ma) (hb : OE X W b mb) : OT X W (.Compare a [.Lt] [b] pos) (tVal (eBin (pIB fun i j => decide (i < j)) ma mb)) := ot_cmp op_lt ok_B0 ha hb (nomark _)
theorem ot_gt (ha : OE X W a ma) (hb : OE X W b mb) : OT X W (.Compare a [.Gt] [b] pos) (tVal (eBin (pIB fun i j => decide (j < i)) ma mb)) := ot_cmp op_gt ok_B0 ha hb (nomark _)
def pNeg : P → Option P
  | .int i => some (.int (-i))
  | _ => none
def pInv : P → Option P
  | .int i => some (.int (Builtin.bitNot i))
  | _ => none
theorem ok_neg {K : PySem.W.Frag} : UnOk K (rU fun i => .int (-i)) pNeg := by
  intro io F S H x v z Q st rx e k
  cases x with
  | int i =>
    cases e
    exact ⟨i, rx, k F H _ Nxt.refl st rfl⟩
  | _ => cases e
theorem ok_inv {K : PySem.W.Frag} : UnOk K (rU fun i => .int (Builtin.bitNot i)) pInv := by
  intro io F S H x v z Q st rx e k
  cases x with
  | int i =>
    cases e
    exact ⟨i, rx, k F H _ Nxt.refl st rfl⟩
  | _ => cases e
theorem oe_neg (ha : OE X W a ma) : OE X W (.UnaryOp .USub a pos) (eUn pNeg ma) := oe_un un_neg ok_neg ha
theorem oe_inv (ha : OE X W a ma) : OE X W (.UnaryOp .Invert a pos) (eUn pInv ma) := oe_un un_inv ok_inv ha
def isN (x : Vl) : Bool := match x with
  | .p .non => true
  | _ => false
def eIsN (a : ME) : ME := fun ρ S => (a ρ S).bind fun x S1 => .ok (.p (.bl (isN x))) S1
def eNotN (a : ME) : ME := fun ρ S => (a ρ S).bind fun x S1 => .ok (.p (.bl (!isN x))) S1
theorem isN_ok {K : PySem.W.Frag} {io : Io} {F : Hp} {d : Vl} {v : V} (r : RepV K io F d v) : decide (v = .non) = isN d := by
  cases d with
  | c k =>
    obtain ⟨a, _, rfl⟩ := r
    exact decide_eq_false fun q => nomatch q
  | p x =>
    cases x with
    | non =>
      have r : _ = _ := r
      subst r
      rfl
    | bl _ =>
      have r : _ = _ := r
      subst r
      exact decide_eq_false fun q => nomatch q
    | int _ =>
      have r : _ = _ := r
      subst r
      exact decide_eq_false fun q => nomatch q
    | str _ =>
      have r : _ = _ := r
      subst r
      exact decide_eq_false fun q => nomatch q
    | tup _ =>
      obtain ⟨a, _, rfl, _⟩ := r
      exact decide_eq_false fun q => nomatch q
    | lst _ =>
      obtain ⟨a, _, rfl, _⟩ := r
      exact decide_eq_false fun q => nomatch q
    | dct _ _ =>
      obtain ⟨a, _, rfl, _⟩ := r
      exact decide_eq_false fun q => nomatch q
    | obj _ _ _ =>
      obtain ⟨a, _, _, rfl, _⟩ := r
      exact decide_eq_false fun q => nomatch q
    | scr _ =>
      obtain ⟨a, _, rfl, _⟩ := r
      exact decide_eq_false fun q => nomatch q
    | ty _ =>
      have r : _ = _ := r
      subst r
      exact decide_eq_false fun q => nomatch q
    | glo _ =>
      have r : _ = _ := r
      subst r
      exact decide_eq_false fun q => nomatch q
    | rwp _ _ =>
      obtain ⟨a, _, _, rfl, _⟩ := r
      exact decide_eq_false fun q => nomatch q
    | raw _ =>
      have r : _ = _ := r
      subst r
      exact decide_eq_false fun q => nomatch q
theorem oe_notN {j : Nat} {p2 : Pos} (ha : OE X W a ma) : OE X W (.Compare a [.IsNot] [.Constant .none j p2] pos) (eNotN ma) := by
  obtain ⟨t, p, ha⟩ := ha
  refine ⟨_, pe_cmp (pc_notN p), fun ρ S io F σ H Q st en h => ?_⟩
  refine ha ρ S io F σ H _ st en (RG.bind h fun d S1 io1 F1 H1 v e1 n1 s1 r1 h1 => ?_)
  show Q (.bl (!decide (v = .non))) H1
  rw [isN_ok r1]
  exact RG.val (R := RepA X.K) (d := .p (.bl (!isN d))) s1 rfl h1
theorem ot_isN {j : Nat} {p2 : Pos} (ha : OE X W a ma) : OT X W (.Compare a [.Is] [.Constant .none j p2] pos) (tVal (eIsN ma)) := by
  obtain ⟨t, p, ha⟩ := ha
  refine ⟨_, pt_cmp (pc_isN p), fun ρ S io F σ H Q st en h => ?_⟩
  have h : RG X.K RepB ((ma ρ S).bind fun x S1 => Res.ok (isN x) S1) io F H Q (fun c d H' => W c d σ H') := by
    unfold tVal eIsN at h
    cases q : ma ρ S with
    | ok d S1 => rw [q] at h; exact h
    | exc c x S1 => rw [q] at h; exact h
    | bad => rw [q] at h; exact h
  refine ha ρ S io F σ H _ st en (RG.bind h fun d S1 io1 F1 H1 v e1 n1 s1 r1 h1 => ?_)
  refine ⟨isN d, by rw [isN_ok r1], RG.val (R := RepB) (d := isN d) (v := isN d) s1 rfl h1⟩
end
end Mir

namespace Mir
open PySem L2
def RepRs (K : PySem.W.Frag) (F H : Hp) : List P → List V → Prop
  | [], vs => vs = []
  | x :: xs, vs => ∃ v r, vs = v :: r ∧ RepR K F H x v ∧ RepRs K F H xs r
def rds (S : Sto) : List Vl → Option (List P)
  | [] => some []
  | d :: ds => (rd S d).bind fun x => (rds S ds).bind fun xs => some (x :: xs)
def call1 (f : List P → Option P) (ds : List Vl) (S : Sto) : Res Vl := match rds S ds with
  | some xs => (match f xs with
    | some z => .ok (.p z) S
    | none => .bad)
  | none => .bad
def eCall (f : List P → Option P) (a : MA) : ME := fun ρ S => (a ρ S).bind fun ds S1 => call1 f ds S1
def CallOk (K : PySem.W.Frag) (r : List V → Hp → VK → Prop) (f : List P → Option P) : Prop := ∀ (io : Io) (F : Hp) (S : Sto) (H : Hp) (xs : List P) (vs : List V) (z : P) (Q : VK), Sta K io F S H → RepRs K F H xs vs → f xs = some z →
  (∀ F' H' u, Nxt io F H io F' H' → Sta K io F' S H' → Rep K F' z u → Q u H') → r vs H Q
section
variable {K : PySem.W.Frag} {io : Io} {F : Hp} {S : Sto} {H : Hp}
theorem Sta.rds (st : Sta K io F S H) : ∀ {ds : List Vl} {vs : List V} {xs : List P}, RepVs K io F ds vs → Mir.rds S ds = some xs → RepRs K F H xs vs
  | [], vs, xs, h, e => by
    have e' : [] = xs := Option.some.inj e
    subst e'
    exact h
  | d :: ds, vs, xs, ⟨v, r, e1, h1, h2⟩, e => by
    subst e1
    have e : ((Mir.rd S d).bind fun x => (Mir.rds S ds).bind fun xs => some (x :: xs)) = some xs := e
    cases q : Mir.rd S d with
    | none => rw [q] at e; cases e
    | some x =>
      rw [q] at e
      cases q2 : Mir.rds S ds with
      | none => rw [q2] at e; cases e
      | some ys =>
        rw [q2] at e
        have e' : x :: ys = xs := Option.some.inj e
        subst e'
        exact ⟨v, r, rfl, st.rd h1 q, Sta.rds st h2 q2⟩
theorem Sta.call1 {r : List V → Hp → VK → Prop} {f : List P → Option P} {ds : List Vl} {vs : List V} {Q : VK} {E : XK} (hf : CallOk K r f) (st : Sta K io F S H) (r1 : RepVs K io F ds vs)
    (h : RG K (RepA K) (Mir.call1 f ds S) io F H Q E) : r vs H Q := by
  unfold Mir.call1 at h
  cases e1 : Mir.rds S ds with
  | none => rw [e1] at h; exact h.elim
  | some x =>
    rw [e1] at h
    dsimp only at h
    cases e3 : f x with
    | none => rw [e3] at h; exact h.elim
    | some z =>
      rw [e3] at h
      exact hf io F S H x vs z Q st (st.rds r1 e1) e3 fun F' H' u n s rp => h io F' H' u n s rp
theorem RepRs.one {x : P} {vs : List V} (h : RepRs K F H [x] vs) : ∃ v, vs = [v] ∧ RepR K F H x v := by
  obtain ⟨v, r, e, h1, h2⟩ := h
  have h2 : r = [] := h2
  subst h2
  exact ⟨v, e, h1⟩
theorem RepRs.two {x y : P} {vs : List V} (h : RepRs K F H [x, y] vs) : ∃ v w, vs = [v, w] ∧ RepR K F H x v ∧ RepR K F H y w := by
  obtain ⟨v, r, e, h1, h2⟩ := h
  obtain ⟨w, rfl, h3⟩ := h2.one
  exact ⟨v, w, e, h1, h3⟩
end
section
variable {X : Cx} {W : WX} {a b c e o : Expr} {ma mb mc mo : ME} {pos : Pos} {es : List Expr} {mas : MA}
theorem oe_callB {x : Str} {id : String} {p : Pos} {r : List V → Hp → VK → Prop} {f : List P → Option P} (hc : CallR X (.builtin id) r) (hf : CallOk X.K r f) (hm : X.mg x = none) (hv : bootBuiltins x = some (.builtin id)) (ha : OA X W (e :: es) mas)
    (hg : Gl X x := by rfl) (hn : x ≠ "__name__" := by decide) (hdb : (x == ("__debug__" : Str)) = false := by decide) (hs : starEach (e :: es) X.env = (false, eval e X.env) :: starEach es X.env := by rfl) (hplain : (backTo pos (starEach es X.env)).any (·.1) = false := by rfl) :
    OE X W (.Call (.Name x p) (e :: es) [] pos) (eCall f mas) := by
  obtain ⟨t, q, ha⟩ := ha
  refine ⟨_, pe_callB hc hg hm hv q hn hdb hs hplain, fun ρ S io F σ H Q st en h => ?_⟩
  exact ha ρ S io F σ H _ st en (RG.bind h fun d S1 io1 F1 H1 v e1 n1 s1 r1 h1 => s1.call1 hf r1 h1)
theorem oe_callTy {x : Str} {T : String} {p : Pos} {r : List V → Hp → VK → Prop} {f : List P → Option P} (hc : CallR X (.type T) r) (hf : CallOk X.K r f) (hm : X.mg x = none) (hv : bootBuiltins x = some (.type T)) (ha : OA X W (e :: es) mas)
    (hg : Gl X x := by rfl) (hn : x ≠ "__name__" := by decide) (hdb : (x == ("__debug__" : Str)) = false := by decide) (hs : starEach (e :: es) X.env = (false, eval e X.env) :: starEach es X.env := by rfl) (hplain : (backTo pos (starEach es X.env)).any (·.1) = false := by rfl) :
    OE X W (.Call (.Name x p) (e :: es) [] pos) (eCall f mas) := by
  obtain ⟨t, q, ha⟩ := ha
  refine ⟨_, pe_callTy hc hg hm hv q hn hdb hs hplain, fun ρ S io F σ H Q st en h => ?_⟩
  exact ha ρ S io F σ H _ st en (RG.bind h fun d S1 io1 F1 H1 v e1 n1 s1 r1 h1 => s1.call1 hf r1 h1)
def tyP (T : String) : P → Bool
  | .str _ => T == "str"
  | .int _ => T == "int"
  | .lst _ => T == "list"
  | .dct _ _ => T == "dict"
  | _ => false
theorem tyP_ok {K : PySem.W.Frag} {F H : Hp} {T : String} {x : P} {v : V} (h : tyP T x = true) (r : RepR K F H x v) : tyV K T v H := by
  cases x with
  | str _ =>
    have r : _ = _ := r
    subst r
    have h' : (T == "str") = true := h
    exact eq_of_beq h'
  | int _ =>
    have r : _ = _ := r
    subst r
    have h' : (T == "int") = true := h
    exact eq_of_beq h'
  | lst _ =>
    obtain ⟨a, vs, rfl, h1, _⟩ := r
    have h' : (T == "list") = true := h
    exact .inl ⟨eq_of_beq h', vs, SqL.of h1⟩
  | dct _ _ =>
    obtain ⟨a, vs, rfl, h1, _⟩ := r
    have h' : (T == "dict") = true := h
    exact .inr (.inr (.inl ⟨eq_of_beq h', .inl ⟨vs, h1⟩⟩))
  | _ => cases h
def rM (r : V → List V → Hp → VK → Prop) : List V → Hp → VK → Prop := fun vs H Q => match vs with
  | x :: xs => r x xs H Q
  | [] => False
def eMthT (T : String) (f : P → List P → Option P) (o : ME) (a : MA) : ME := fun ρ S => (o ρ S).bind fun d S1 => match rd S1 d with
  | some x => if tyP T x then (a ρ S1).bind fun ds S2 => call1 (fun xs => match xs with
    | x :: r => f x r
    | [] => none) (d :: ds) S2 else .bad
  | none => .bad
theorem oe_bm {T id : String} {name : Str} {apos : Pos} {r : V → List V → Hp → VK → Prop} {f : P → List P → Option P} (pa : PlainAttrs T) (slot : Slot T name id) (hty : typeOf (.builtin id) = pure (.type "method_descriptor")) (hm : MtR X id r)
    (hf : CallOk X.K (rM r) fun xs => match xs with
      | x :: r => f x r
      | [] => none) (ho : OE X W o mo) (ha : OA X W (e :: es) mas)
    (hbase : attributeBase o name X.env (eval o X.env) = eval o X.env := by rfl)
    (hfew : ((backTo pos (starEach (e :: es) X.env)).all (fun x => !x.1) && (backToKw pos (keywordEach [] X.env)).all (fun x => x.1.isSome)
      && decide ((e :: es).length + ([] : List Keyword).length + (if ([] : List Keyword).isEmpty then 0 else 1) < 30)) = true := by rfl)
    (hline : (apos.endLine == pos.line) = true := by rfl) (hs : starEach (e :: es) X.env = (false, eval e X.env) :: starEach es X.env := by rfl) (hplain : (backTo pos (starEach es X.env)).any (·.1) = false := by rfl) :
    OE X W (.Call (.Attribute o name apos) (e :: es) [] pos) (eMthT T f mo mas) := by
  obtain ⟨u, p, ho⟩ := ho
  obtain ⟨t, q, ha⟩ := ha
  refine ⟨_, pe_bm pa slot hty hm p q hbase hfew hline hs hplain, fun ρ S io F σ H Q st en h => ?_⟩
  refine ho ρ S io F σ H _ st en (RG.bind h fun d S1 io1 F1 H1 v e1 n1 s1 r1 h1 => ?_)
  cases q1 : rd S1 d with
  | none => rw [q1] at h1; exact h1.elim
  | some x =>
    rw [q1] at h1
    dsimp only at h1
    by_cases q2 : tyP T x = true
    · rw [if_pos q2] at h1
      refine ⟨tyP_ok q2 (s1.rd r1 q1), ?_⟩
      refine ha ρ S1 io1 F1 σ H1 _ s1 (en.nxt n1) (RG.bind h1 fun d2 S2 io2 F2 H2 v2 e2 n2 s2 r2 h2 => ?_)
      exact s2.call1 hf (ds := d :: d2) (vs := v :: v2) ⟨v, v2, rfl, r1.mono n2.han n2.fr, r2⟩ h2
    · rw [if_neg q2] at h1
      exact h1.elim
theorem IxR.or {r r' : R2} (h : IxR X r) (h' : IxR X r') : IxR X (fun x y H Q => r x y H Q ∨ r' x y H Q) := by
  intro value slice pins s σ H x y v u Q I rx ry q hs
  rcases q with q | q
  · exact h value slice pins s σ H x y v u Q I rx ry q hs
  · exact h' value slice pins s σ H x y v u Q I rx ry q hs
def pIx : P → P → Option P
  | .lst xs, .int i => atI xs i
  | .scr xs, .int i => atI xs i
  | .tup xs, .int i => atI xs i
  | .str x, .int i => if x.length ≤ 100000 then (atI x i).map fun c => .str [c] else none
  | _, _ => none
theorem atI_rep {K : PySem.W.Frag} {F : Hp} {xs : List P} {vs : List V} {i : Int} {z : P} (r : RepL K F xs vs) (e : atI xs i = some z) : ∃ v, atI vs i = some v ∧ Rep K F z v := by
  obtain ⟨j, h1, h2, h3, h4, h5⟩ := atI_get e
  obtain ⟨v, hv, hr⟩ := r.get h2
  refine ⟨v, ?_, hr⟩
  unfold atI at e ⊢
  rw [r.length]
  cases q : ixN xs.length i with
  | none => rw [q] at e; cases e
  | some k =>
    rw [q] at e
    have e : xs[k]? = some z := e
    obtain ⟨w, hw, hrw⟩ := r.get e
    have q2 := (ixN_seq q).1
    rw [h1] at q2
    cases q2
    show vs[j]? = some v
    exact hv
theorem ok_ix {K : PySem.W.Frag} : BinOk K (fun x y H Q => (rIxL K x y H Q ∨ rIxT K x y H Q) ∨ rIxS x y H Q) pIx := by
  intro io F S H x y v w z Q st rx ry e k
  cases y with
  | int i =>
    have ry : _ = _ := ry
    subst ry
    cases x with
    | lst xs =>
      obtain ⟨a, vs, rfl, ha, ra⟩ := rx
      obtain ⟨u, hu, hr⟩ := atI_rep ra e
      exact .inl (.inl ⟨a, vs, i, u, rfl, rfl, SqL.of ha, hu, k F H u Nxt.refl st hr⟩)
    | scr xs =>
      obtain ⟨a, vs, rfl, ha, ra⟩ := rx
      obtain ⟨u, hu, hr⟩ := atI_rep ra e
      exact .inl (.inl ⟨a, vs, i, u, rfl, rfl, sql_mono st.sub ha, hu, k F H u Nxt.refl st hr⟩)
    | tup xs =>
      obtain ⟨a, vs, rfl, ha, ra⟩ := rx
      obtain ⟨u, hu, hr⟩ := atI_rep ra e
      exact .inl (.inr ⟨a, vs, i, u, rfl, rfl, sqt_mono st.sub ha, hu, k F H u Nxt.refl st hr⟩)
    | str xs =>
      have rx : _ = _ := rx
      subst rx
      have e : (if xs.length ≤ 100000 then (atI xs i).map fun c => P.str [c] else none) = some z := e
      split at e
      · rename_i hz
        cases q : atI xs i with
        | none => rw [q] at e; cases e
        | some c =>
          rw [q] at e
          have e' : P.str [c] = z := Option.some.inj e
          subst e'
          exact .inr ⟨_, i, c, rfl, rfl, by rw [strOf_length]; exact sz5 hz, by show atI xs i = some c; exact q, k F H _ Nxt.refl st rfl⟩
      · cases e
    | _ => cases e
  | _ => cases x <;> cases e
def OO (X : Cx) (W : WX) (e : Option Expr) (m : En → Sto → Res (Option Int)) : Prop := ∃ t, PO X e t ∧ ∀ (ρ : En) (S : Sto) (io : Io) (F : Hp) (σ : St) (H : Hp) (Q : Option Int → Hp → Prop), Sta X.K io F S H → Mir.Env X.K io F ρ σ →
  RG X.K (fun _ _ a b => a = b) (m ρ S) io F H Q (fun c d H' => W c d σ H') → t σ H Q
def oNo : En → Sto → Res (Option Int) := fun _ S => .ok none S
def intV (d : Vl) (S : Sto) : Res (Option Int) := match d with
  | .p (.int i) => .ok (some i) S
  | _ => .bad
def oYes (m : ME) : En → Sto → Res (Option Int) := fun ρ S => (m ρ S).bind intV
theorem oo_none : OO X W none oNo := ⟨_, po_none, fun ρ S io F σ H Q st en h => RG.val (R := fun _ _ a b => a = b) (d := (none : Option Int)) (v := none) st rfl h⟩
theorem oo_some (he : OE X W e ma) : OO X W (some e) (oYes ma) := by
  obtain ⟨t, p, he⟩ := he
  refine ⟨_, po_some p, fun ρ S io F σ H Q st en h => ?_⟩
  refine he ρ S io F σ H _ st en (RG.bind h fun d S1 io1 F1 H1 v e1 n1 s1 r1 h1 => ?_)
  cases d with
  | c k => exact h1.elim
  | p x =>
    cases x with
    | int i => exact ⟨i, r1, RG.val (R := fun _ _ a b => a = b) (d := some i) (v := some i) s1 rfl h1⟩
    | _ => exact h1.elim
def cutP {A : Type} (xs : List A) (lo hi : Option Int) : List A := (xs.drop (HT.sIx xs.length 0 lo)).take (HT.sIx xs.length xs.length hi - HT.sIx xs.length 0 lo)
def pSl (lo hi : Option Int) : P → Option P
  | .lst xs => some (.lst (cutP xs lo hi))
  | .scr xs => some (.lst (cutP xs lo hi))
  | .tup xs => some (.tup (cutP xs lo hi))
  | .str x => if x.length ≤ 100000 then some (.str (cutP x lo hi)) else none
  | _ => none
def eSl (m : ME) (l h : En → Sto → Res (Option Int)) : ME := fun ρ S => (m ρ S).bind fun d S1 => (l ρ S1).bind fun lo S2 => (h ρ S2).bind fun hi S3 => op1 (pSl lo hi) d S3
theorem cutP_rep {K : PySem.W.Frag} {F : Hp} {xs : List P} {vs : List V} (r : RepL K F xs vs) (lo hi : Option Int) : RepL K F (cutP xs lo hi) (cutV vs lo hi) := by
  unfold cutP cutV
  rw [r.length]
  exact (r.drop _).take _
theorem ok_sl {K : PySem.W.Frag} {lo hi : Option Int} : UnOk K (fun x H Q => (rSlL K x lo hi H Q ∨ rSlA K x lo hi H Q) ∨ rSlS x lo hi H Q) (pSl lo hi) := by
  intro io F S H x v z Q st rx e k
  cases x with
  | lst xs =>
    cases e
    obtain ⟨a, vs, rfl, ha, ra⟩ := rx
    refine .inl (.inl ⟨a, vs, rfl, SqL.of ha, fun p hp => ?_⟩)
    obtain ⟨s3, n3⟩ := st.froze (o := .lst (cutV vs lo hi)) hp
    exact k _ _ _ n3 s3 ⟨p, _, rfl, upd_same, RepL.mono n3.fr (cutP_rep ra lo hi)⟩
  | scr xs =>
    cases e
    obtain ⟨a, vs, rfl, ha, ra⟩ := rx
    refine .inl (.inl ⟨a, vs, rfl, sql_mono st.sub ha, fun p hp => ?_⟩)
    obtain ⟨s3, n3⟩ := st.froze (o := .lst (cutV vs lo hi)) hp
    exact k _ _ _ n3 s3 ⟨p, _, rfl, upd_same, RepL.mono n3.fr (cutP_rep ra lo hi)⟩
  | tup xs =>
    cases e
    obtain ⟨a, vs, rfl, ha, ra⟩ := rx
    refine .inl (.inr ⟨a, vs, rfl, sqt_mono st.sub ha, fun hw => ?_, fun hw p hp => ?_⟩)
    · have hx : cutP xs lo hi = xs := by
        unfold cutP
        rw [← ra.length, hw.1, hw.2, ra.length]
        simp
      rw [hx] at k
      exact k F H _ Nxt.refl st ⟨a, vs, rfl, ha, ra⟩
    · obtain ⟨s3, n3⟩ := st.froze (o := .tup (cutV vs lo hi)) hp
      exact k _ _ _ n3 s3 ⟨p, _, rfl, SqT.of upd_same, RepL.mono n3.fr (cutP_rep ra lo hi)⟩
  | str xs =>
    have rx : _ = _ := rx
    subst rx
    have e : (if xs.length ≤ 100000 then some (P.str (cutP xs lo hi)) else none) = some z := e
    split at e
    · rename_i hz
      cases e
      refine .inr ⟨_, rfl, by rw [strOf_length]; exact sz5 hz, ?_⟩
      have q : cutS (strOf xs) lo hi = strOf (cutP xs lo hi) := by
        unfold cutS cutP
        rw [strOf_length]
        rfl
      rw [q]
      exact k F H _ Nxt.refl st rfl
    · cases e
  | _ => cases e
theorem oe_slice {lo hi : Option Expr} {p2 : Pos} {ml mh : En → Sto → Res (Option Int)} (ha : OE X W a ma) (hl : OO X W lo ml) (hh : OO X W hi mh) : OE X W (.Subscript a (.Slice lo hi none p2) pos) (eSl ma ml mh) := by
  obtain ⟨t, p, ha⟩ := ha
  obtain ⟨tl, pl, hl⟩ := hl
  obtain ⟨th, ph, hh⟩ := hh
  refine ⟨_, pe_slice (SlR.or (SlR.or sl_list sl_tupA) sl_str) p pl ph, fun ρ S io F σ H Q st en h => ?_⟩
  refine ha ρ S io F σ H _ st en (RG.bind h fun d S1 io1 F1 H1 v e1 n1 s1 r1 h1 => ?_)
  refine hl ρ S1 io1 F1 σ H1 _ s1 (en.nxt n1) (RG.bind h1 fun lo' S2 io2 F2 H2 v2 e2 n2 s2 r2 h2 => ?_)
  subst r2
  refine hh ρ S2 io2 F2 σ H2 _ s2 (en.nxt (n1.trans n2)) (RG.bind h2 fun hi' S3 io3 F3 H3 v3 e3 n3 s3 r3 h3 => ?_)
  subst r3
  exact s3.op1 (r := fun x H Q => (rSlL X.K x lo' hi' H Q ∨ rSlA X.K x lo' hi' H Q) ∨ rSlS x lo' hi' H Q) ok_sl (r1.mono (n2.trans n3).han (n2.trans n3).fr) h3
end
end Mir

namespace Mir
open PySem L2
theorem CallR.or {X : Cx} {f : Value} {r r' : List V → Hp → VK → Prop} (h : CallR X f r) (h' : CallR X f r') : CallR X f (fun xs H Q => r xs H Q ∨ r' xs H Q) := by
  intro pins s σ H xs us Q I rv q
  rcases q with q | q
  · exact h pins s σ H xs us Q I rv q
  · exact h' pins s σ H xs us Q I rv q
def intsOf : List P → Option (List Int)
  | [] => some []
  | .int i :: r => (intsOf r).map (i :: ·)
  | _ :: _ => none
def blsOf : List P → Option (List Bool)
  | [] => some []
  | .bl i :: r => (blsOf r).map (i :: ·)
  | _ :: _ => none
def strsOf : List P → Option (List (List Nat))
  | [] => some []
  | .str i :: r => (strsOf r).map (i :: ·)
  | _ :: _ => none
section
variable {K : PySem.W.Frag} {F H : Hp}
theorem intsOf_rep : ∀ {xs : List P} {vs : List V} {ns : List Int}, RepL K F xs vs → intsOf xs = some ns → vs = ns.map V.int ∧ xs = ns.map P.int
  | [], vs, ns, r, e => by
    have e' : [] = ns := Option.some.inj e
    subst e'
    exact ⟨r, rfl⟩
  | x :: xs, vs, ns, ⟨v, w, e1, h1, h2⟩, e => by
    subst e1
    cases x with
    | int i =>
      have e : (intsOf xs).map (i :: ·) = some ns := e
      cases q : intsOf xs with
      | none => rw [q] at e; cases e
      | some ms =>
        rw [q] at e
        have e' : i :: ms = ns := Option.some.inj e
        subst e'
        obtain ⟨a, b⟩ := intsOf_rep h2 q
        have h1 : v = .int i := h1
        rw [a, b, h1]
        exact ⟨rfl, rfl⟩
    | _ => cases e
theorem blsOf_rep : ∀ {xs : List P} {vs : List V} {ns : List Bool}, RepL K F xs vs → blsOf xs = some ns → vs = ns.map V.bl ∧ xs = ns.map P.bl
  | [], vs, ns, r, e => by
    have e' : [] = ns := Option.some.inj e
    subst e'
    exact ⟨r, rfl⟩
  | x :: xs, vs, ns, ⟨v, w, e1, h1, h2⟩, e => by
    subst e1
    cases x with
    | bl i =>
      have e : (blsOf xs).map (i :: ·) = some ns := e
      cases q : blsOf xs with
      | none => rw [q] at e; cases e
      | some ms =>
        rw [q] at e
        have e' : i :: ms = ns := Option.some.inj e
        subst e'
        obtain ⟨a, b⟩ := blsOf_rep h2 q
        have h1 : v = .bl i := h1
        rw [a, b, h1]
        exact ⟨rfl, rfl⟩
    | _ => cases e
theorem strsOf_rep : ∀ {xs : List P} {vs : List V} {ns : List (List Nat)}, RepL K F xs vs → strsOf xs = some ns → vs = (ns.map strOf).map V.str ∧ xs = ns.map P.str
  | [], vs, ns, r, e => by
    have e' : [] = ns := Option.some.inj e
    subst e'
    exact ⟨r, rfl⟩
  | x :: xs, vs, ns, ⟨v, w, e1, h1, h2⟩, e => by
    subst e1
    cases x with
    | str i =>
      have e : (strsOf xs).map (i :: ·) = some ns := e
      cases q : strsOf xs with
      | none => rw [q] at e; cases e
      | some ms =>
        rw [q] at e
        have e' : i :: ms = ns := Option.some.inj e
        subst e'
        obtain ⟨a, b⟩ := strsOf_rep h2 q
        have h1 : v = .str (strOf i) := h1
        rw [a, b, h1]
        exact ⟨rfl, rfl⟩
    | _ => cases e
theorem repL_ints : ∀ (ns : List Int), RepL K F (ns.map P.int) (ns.map V.int)
  | [] => .nil
  | n :: ns => .cons rfl (repL_ints ns)
theorem repL_strs : ∀ (ns : List (List Nat)), RepL K F (ns.map P.str) ((ns.map strOf).map V.str)
  | [] => .nil
  | n :: ns => .cons rfl (repL_strs ns)
end
@[simp] theorem intsOf_map (ns : List Int) : intsOf (ns.map P.int) = some ns := by
  induction ns with
  | nil => rfl
  | cons n ns ih => show (intsOf (ns.map P.int)).map (n :: ·) = _; rw [ih]; rfl
@[simp] theorem blsOf_map (ns : List Bool) : blsOf (ns.map P.bl) = some ns := by
  induction ns with
  | nil => rfl
  | cons n ns ih => show (blsOf (ns.map P.bl)).map (n :: ·) = _; rw [ih]; rfl
@[simp] theorem strsOf_map (ns : List (List Nat)) : strsOf (ns.map P.str) = some ns := by
  induction ns with
  | nil => rfl
  | cons n ns ih => show (strsOf (ns.map P.str)).map (n :: ·) = _; rw [ih]; rfl
def ins (n : Int) : List Int → List Int
  | [] => [n]
  | m :: r => if n ≤ m then n :: m :: r else m :: ins n r
def isort : List Int → List Int
  | [] => []
  | n :: r => ins n (isort r)
theorem ins_perm (n : Int) : ∀ l : List Int, (ins n l).Perm (n :: l)
  | [] => List.Perm.refl _
  | m :: r => by
    unfold ins
    split
    · exact List.Perm.refl _
    · exact ((ins_perm n r).cons m).trans (List.Perm.swap n m r)
theorem isort_perm : ∀ l : List Int, (isort l).Perm l
  | [] => List.Perm.refl _
  | n :: r => (ins_perm n (isort r)).trans ((isort_perm r).cons n)
theorem ins_sorted (n : Int) : ∀ {l : List Int}, l.Pairwise (· ≤ ·) → (ins n l).Pairwise (· ≤ ·)
  | [], _ => by unfold ins; exact List.pairwise_singleton _ _
  | m :: r, h => by
    unfold ins
    rw [List.pairwise_cons] at h
    split
    · rename_i hn
      refine List.pairwise_cons.mpr ⟨fun a ha => ?_, List.pairwise_cons.mpr h⟩
      rcases List.mem_cons.mp ha with rfl | ha
      · exact hn
      · exact Int.le_trans hn (h.1 a ha)
    · rename_i hn
      refine List.pairwise_cons.mpr ⟨fun a ha => ?_, ins_sorted n h.2⟩
      rcases List.mem_cons.mp ((ins_perm n r).mem_iff.mp ha) with rfl | ha
      · omega
      · exact h.1 a ha
theorem isort_sorted : ∀ l : List Int, (isort l).Pairwise (· ≤ ·)
  | [] => .nil
  | n :: r => ins_sorted n (isort_sorted r)
theorem isort_unique {l l' : List Int} (p : l'.Perm l) (h : l'.Pairwise (· ≤ ·)) : l' = isort l :=
  List.Perm.eq_of_pairwise (fun a b _ _ h1 h2 => Int.le_antisymm h1 h2) h (isort_sorted l) (p.trans (isort_perm l).symm)
def pLen : List P → Option P
  | [.lst xs] => some (.int xs.length)
  | [.scr xs] => some (.int xs.length)
  | [.tup xs] => some (.int xs.length)
  | [.str x] => if x.length ≤ 100000 then some (.int x.length) else none
  | [.dct ks xs] => some (.int ks.length)
  | _ => none
def pSum : List P → Option P
  | [.lst xs] => (intsOf xs).map fun ns => .int ns.sum
  | _ => none
def pAll : List P → Option P
  | [.lst xs] => (blsOf xs).map fun ns => .bl (ns.all id)
  | _ => none
def pAny : List P → Option P
  | [.lst xs] => (blsOf xs).map fun ns => .bl (ns.any id)
  | _ => none
def pSorted : List P → Option P
  | [.lst xs] => (intsOf xs).map fun ns => .lst ((isort ns).map P.int)
  | _ => none
def pTuple : List P → Option P
  | [.lst xs] => some (.tup xs)
  | [.tup xs] => some (.tup xs)
  | _ => none
def pList : List P → Option P
  | [.lst xs] => some (.lst xs)
  | [.tup xs] => some (.lst xs)
  | _ => none
def pAbs : List P → Option P
  | [.int i] => some (.int (if i < 0 then -i else i))
  | _ => none
def pInt : List P → Option P
  | [.int i] => some (.int i)
  | [.bl b] => some (.int (if b then 1 else 0))
  | _ => none
def pMax2 : List P → Option P
  | [.int i, .int j] => some (.int (if j > i then j else i))
  | _ => none
def pMin2 : List P → Option P
  | [.int i, .int j] => some (.int (if j < i then j else i))
  | _ => none
def pDivmod : List P → Option P
  | [.int i, .int j] => if bDiv i j then some (.tup [.int (i / j), .int (i % j)]) else none
  | _ => none
def maxL : List Int → Int
  | [] => 0
  | [n] => n
  | n :: r => if n ≤ maxL r then maxL r else n
def minL : List Int → Int
  | [] => 0
  | [n] => n
  | n :: r => if n ≤ minL r then n else minL r
def pMax : List P → Option P
  | [.lst xs] => match intsOf xs with
    | some (n :: r) => some (.int (maxL (n :: r)))
    | _ => none
  | _ => none
def pMin : List P → Option P
  | [.lst xs] => match intsOf xs with
    | some (n :: r) => some (.int (minL (n :: r)))
    | _ => none
  | _ => none
theorem maxL_mem : ∀ {l : List Int}, l ≠ [] → maxL l ∈ l ∧ ∀ a ∈ l, a ≤ maxL l
  | [], h => absurd rfl h
  | [n], _ => ⟨by simp [maxL], by simp [maxL]⟩
  | n :: m :: r, _ => by
    obtain ⟨h1, h2⟩ := maxL_mem (l := m :: r) (by simp)
    unfold maxL
    split
    · rename_i hn
      refine ⟨List.mem_cons_of_mem _ h1, fun a ha => ?_⟩
      rcases List.mem_cons.mp ha with rfl | ha
      · exact hn
      · exact h2 a ha
    · refine ⟨List.mem_cons_self, fun a ha => ?_⟩
      rcases List.mem_cons.mp ha with rfl | ha
      · exact Int.le_refl _
      · have := h2 a ha; omega
theorem minL_mem : ∀ {l : List Int}, l ≠ [] → minL l ∈ l ∧ ∀ a ∈ l, minL l ≤ a
  | [], h => absurd rfl h
  | [n], _ => ⟨by simp [minL], by simp [minL]⟩
  | n :: m :: r, _ => by
    obtain ⟨h1, h2⟩ := minL_mem (l := m :: r) (by simp)
    unfold minL
    split
    · rename_i hn
      refine ⟨List.mem_cons_self, fun a ha => ?_⟩
      rcases List.mem_cons.mp ha with rfl | ha
      · exact Int.le_refl _
      · have := h2 a ha; omega
    · refine ⟨List.mem_cons_of_mem _ h1, fun a ha => ?_⟩
      rcases List.mem_cons.mp ha with rfl | ha
      · omega
      · exact h2 a ha
section
variable {K : PySem.W.Frag}
theorem ok_len : CallOk K (fun xs H Q => (∃ x n, xs = [x] ∧ LenV K x H n ∧ Q (.int n) H) ∨ (∃ a kvs, xs = [V.ref a] ∧ H a = some (.dK kvs) ∧ Q (.int kvs.length) H)) pLen := by
  intro io F S H xs vs z Q st rx e k
  match xs, e with
  | [.lst xs], e =>
    obtain ⟨v, rfl, r1⟩ := rx.one
    obtain ⟨a, vs, rfl, ha, ra⟩ := r1
    cases e
    refine .inl ⟨_, vs.length, rfl, .inl ⟨vs, SqL.of ha, rfl⟩, ?_⟩
    rw [ra.length]
    exact k F H _ Nxt.refl st rfl
  | [.scr xs], e =>
    obtain ⟨v, rfl, r1⟩ := rx.one
    obtain ⟨a, vs, rfl, ha, ra⟩ := r1
    cases e
    refine .inl ⟨_, vs.length, rfl, .inl ⟨vs, sql_mono st.sub ha, rfl⟩, ?_⟩
    rw [ra.length]
    exact k F H _ Nxt.refl st rfl
  | [.tup xs], e =>
    obtain ⟨v, rfl, r1⟩ := rx.one
    obtain ⟨a, vs, rfl, ha, ra⟩ := r1
    cases e
    refine .inl ⟨_, vs.length, rfl, .inr ⟨vs, sqt_mono st.sub ha, rfl⟩, ?_⟩
    rw [ra.length]
    exact k F H _ Nxt.refl st rfl
  | [.str xs], e =>
    obtain ⟨v, rfl, r1⟩ := rx.one
    have r1 : v = .str (strOf xs) := r1
    subst r1
    have e : (if xs.length ≤ 100000 then some (P.int xs.length) else none) = some z := e
    split at e
    · rename_i hz
      cases e
      refine .inl ⟨_, xs.length, rfl, ⟨by rw [strOf_length]; exact sz5 hz, (strOf_length xs).symm⟩, ?_⟩
      exact k F H _ Nxt.refl st rfl
    · cases e
  | [.dct ks xs], e =>
    obtain ⟨v, rfl, r1⟩ := rx.one
    obtain ⟨a, kvs, rfl, ha, ra, rb⟩ := r1
    cases e
    refine .inr ⟨a, kvs, rfl, ha, ?_⟩
    have := ra.length
    rw [List.length_map] at this
    rw [this]
    exact k F H _ Nxt.refl st rfl
theorem ok_sum : CallOk K (rSum K) pSum := by
  intro io F S H xs vs z Q st rx e k
  match xs, e with
  | [.lst xs], e =>
    obtain ⟨v, rfl, r1⟩ := rx.one
    obtain ⟨a, vs, rfl, ha, ra⟩ := r1
    have e : (intsOf xs).map (fun ns => P.int ns.sum) = some z := e
    cases q : intsOf xs with
    | none => rw [q] at e; cases e
    | some ns =>
      rw [q] at e
      cases e
      obtain ⟨h1, h2⟩ := intsOf_rep ra q
      subst h1
      exact ⟨a, ns, rfl, SqL.of ha, k F H _ Nxt.refl st rfl⟩
theorem ok_all : CallOk K (rAll K) pAll := by
  intro io F S H xs vs z Q st rx e k
  match xs, e with
  | [.lst xs], e =>
    obtain ⟨v, rfl, r1⟩ := rx.one
    obtain ⟨a, vs, rfl, ha, ra⟩ := r1
    have e : (blsOf xs).map (fun ns => P.bl (ns.all id)) = some z := e
    cases q : blsOf xs with
    | none => rw [q] at e; cases e
    | some ns =>
      rw [q] at e
      cases e
      obtain ⟨h1, h2⟩ := blsOf_rep ra q
      subst h1
      exact ⟨a, ns, rfl, SqL.of ha, k F H _ Nxt.refl st rfl⟩
theorem ok_any : CallOk K (rAny K) pAny := by
  intro io F S H xs vs z Q st rx e k
  match xs, e with
  | [.lst xs], e =>
    obtain ⟨v, rfl, r1⟩ := rx.one
    obtain ⟨a, vs, rfl, ha, ra⟩ := r1
    have e : (blsOf xs).map (fun ns => P.bl (ns.any id)) = some z := e
    cases q : blsOf xs with
    | none => rw [q] at e; cases e
    | some ns =>
      rw [q] at e
      cases e
      obtain ⟨h1, h2⟩ := blsOf_rep ra q
      subst h1
      exact ⟨a, ns, rfl, SqL.of ha, k F H _ Nxt.refl st rfl⟩
theorem ok_sorted : CallOk K (rSortedI K) pSorted := by
  intro io F S H xs vs z Q st rx e k
  match xs, e with
  | [.lst xs], e =>
    obtain ⟨v, rfl, r1⟩ := rx.one
    obtain ⟨a, vs, rfl, ha, ra⟩ := r1
    have e : (intsOf xs).map (fun ns => P.lst ((isort ns).map P.int)) = some z := e
    cases q : intsOf xs with
    | none => rw [q] at e; cases e
    | some ns =>
      rw [q] at e
      cases e
      obtain ⟨h1, h2⟩ := intsOf_rep ra q
      subst h1
      refine ⟨a, ns, rfl, SqL.of ha, fun ns' p hp hs hn => ?_⟩
      have := isort_unique hp hs
      subst this
      obtain ⟨s3, n3⟩ := st.froze (o := .lst ((isort ns).map V.int)) hn
      exact k _ _ _ n3 s3 ⟨p, _, rfl, upd_same, repL_ints _⟩
theorem ok_tuple : CallOk K (fun xs H Q => ∃ p ys, xs = [.ref p] ∧ ((SqL K H p ys ∧ ∀ l, H l = none → Q (.ref l) (upd H l (.tup ys))) ∨ (SqT K H p ys ∧ Q (.ref p) H))) pTuple := by
  intro io F S H xs vs z Q st rx e k
  match xs, e with
  | [.lst xs], e =>
    obtain ⟨v, rfl, r1⟩ := rx.one
    obtain ⟨a, vs, rfl, ha, ra⟩ := r1
    cases e
    refine ⟨a, vs, rfl, .inl ⟨SqL.of ha, fun p hp => ?_⟩⟩
    obtain ⟨s3, n3⟩ := st.froze (o := .tup vs) hp
    exact k _ _ _ n3 s3 ⟨p, _, rfl, SqT.of upd_same, RepL.mono n3.fr ra⟩
  | [.tup xs], e =>
    obtain ⟨v, rfl, r1⟩ := rx.one
    obtain ⟨a, vs, rfl, ha, ra⟩ := r1
    cases e
    exact ⟨a, vs, rfl, .inr ⟨sqt_mono st.sub ha, k F H _ Nxt.refl st ⟨a, vs, rfl, ha, ra⟩⟩⟩
theorem ok_abs : CallOk K (fun xs H Q => ∃ i, xs = [.int i] ∧ Q (.int (if i < 0 then -i else i)) H) pAbs := by
  intro io F S H xs vs z Q st rx e k
  match xs, e with
  | [.int i], e =>
    obtain ⟨v, rfl, r1⟩ := rx.one
    have r1 : v = .int i := r1
    subst r1
    cases e
    exact ⟨i, rfl, k F H _ Nxt.refl st rfl⟩
theorem ok_int : CallOk K (fun xs H Q => (∃ i, xs = [.int i] ∧ Q (.int i) H) ∨ ∃ k, xs = [.bl k] ∧ Q (.int (if k then 1 else 0)) H) pInt := by
  intro io F S H xs vs z Q st rx e k
  match xs, e with
  | [.int i], e =>
    obtain ⟨v, rfl, r1⟩ := rx.one
    have r1 : v = .int i := r1
    subst r1
    cases e
    exact .inl ⟨i, rfl, k F H _ Nxt.refl st rfl⟩
  | [.bl i], e =>
    obtain ⟨v, rfl, r1⟩ := rx.one
    have r1 : v = .bl i := r1
    subst r1
    cases e
    exact .inr ⟨i, rfl, k F H _ Nxt.refl st rfl⟩
theorem ok_max2 : CallOk K (fun xs H Q => ∃ i j, xs = [.int i, .int j] ∧ Q (.int (if j > i then j else i)) H) pMax2 := by
  intro io F S H xs vs z Q st rx e k
  match xs, e with
  | [.int i, .int j], e =>
    obtain ⟨v, w, rfl, r1, r2⟩ := rx.two
    have r1 : v = .int i := r1
    have r2 : w = .int j := r2
    subst r1; subst r2
    cases e
    exact ⟨i, j, rfl, k F H _ Nxt.refl st rfl⟩
theorem ok_min2 : CallOk K (fun xs H Q => ∃ i j, xs = [.int i, .int j] ∧ Q (.int (if j < i then j else i)) H) pMin2 := by
  intro io F S H xs vs z Q st rx e k
  match xs, e with
  | [.int i, .int j], e =>
    obtain ⟨v, w, rfl, r1, r2⟩ := rx.two
    have r1 : v = .int i := r1
    have r2 : w = .int j := r2
    subst r1; subst r2
    cases e
    exact ⟨i, j, rfl, k F H _ Nxt.refl st rfl⟩
theorem ok_divmod : CallOk K (fun xs H Q => ∃ i j, xs = [.int i, .int j] ∧ CDiv i j ∧ ∀ p, H p = none → Q (.ref p) (upd H p (.tup [.int (i / j), .int (i % j)]))) pDivmod := by
  intro io F S H xs vs z Q st rx e k
  match xs, e with
  | [.int i, .int j], e =>
    obtain ⟨v, w, rfl, r1, r2⟩ := rx.two
    have r1 : v = .int i := r1
    have r2 : w = .int j := r2
    subst r1; subst r2
    have e : (if bDiv i j then some (P.tup [.int (i / j), .int (i % j)]) else none) = some z := e
    split at e
    · rename_i hd
      cases e
      refine ⟨i, j, rfl, bDiv_ok i j hd, fun p hp => ?_⟩
      obtain ⟨s3, n3⟩ := st.froze (o := .tup [.int (i / j), .int (i % j)]) hp
      exact k _ _ _ n3 s3 ⟨p, _, rfl, SqT.of upd_same, .cons rfl (.cons rfl .nil)⟩
    · cases e
theorem ok_max : CallOk K (rMax K) pMax := by
  intro io F S H xs vs z Q st rx e k
  match xs, e with
  | [.lst xs], e =>
    obtain ⟨v, rfl, r1⟩ := rx.one
    obtain ⟨a, vs, rfl, ha, ra⟩ := r1
    have e : (match intsOf xs with
      | some (n :: r) => some (P.int (maxL (n :: r)))
      | _ => none) = some z := e
    cases q : intsOf xs with
    | none => rw [q] at e; cases e
    | some ns =>
      rw [q] at e
      cases ns with
      | nil => cases e
      | cons n r =>
        cases e
        obtain ⟨h1, h2⟩ := intsOf_rep ra q
        subst h1
        refine ⟨a, n :: r, rfl, SqL.of ha, Nat.succ_pos _, fun m hm hle => ?_⟩
        obtain ⟨m1, m2⟩ := maxL_mem (l := n :: r) (by simp)
        have : m = maxL (n :: r) := Int.le_antisymm (m2 m hm) (hle _ m1)
        subst this
        exact k F H _ Nxt.refl st rfl
theorem ok_min : CallOk K (rMin K) pMin := by
  intro io F S H xs vs z Q st rx e k
  match xs, e with
  | [.lst xs], e =>
    obtain ⟨v, rfl, r1⟩ := rx.one
    obtain ⟨a, vs, rfl, ha, ra⟩ := r1
    have e : (match intsOf xs with
      | some (n :: r) => some (P.int (minL (n :: r)))
      | _ => none) = some z := e
    cases q : intsOf xs with
    | none => rw [q] at e; cases e
    | some ns =>
      rw [q] at e
      cases ns with
      | nil => cases e
      | cons n r =>
        cases e
        obtain ⟨h1, h2⟩ := intsOf_rep ra q
        subst h1
        refine ⟨a, n :: r, rfl, SqL.of ha, Nat.succ_pos _, fun m hm hle => ?_⟩
        obtain ⟨m1, m2⟩ := minL_mem (l := n :: r) (by simp)
        have : m = minL (n :: r) := Int.le_antisymm (hle _ m1) (m2 m hm)
        subst this
        exact k F H _ Nxt.refl st rfl
end
def txL (x : Str) : List Nat := x.cps.toList
theorem strOf_txL (x : Str) : strOf (txL x) = x := strOf_toList x
def pJoin : P → List P → Option P
  | .str s, [.lst xs] => (strsOf xs).bind fun ys => if (ys.map (·.length)).sum + ys.length * s.length ≤ 1000000 then some (.str (TL.joinL s ys)) else none
  | .str s, [.tup xs] => (strsOf xs).bind fun ys => if (ys.map (·.length)).sum + ys.length * s.length ≤ 1000000 then some (.str (TL.joinL s ys)) else none
  | _, _ => none
def pSplit : P → List P → Option P
  | .str x, [.str s] => if s ≠ [] ∧ (s.all fun c => decide (c < 256)) = true ∧ x.length ≤ 1000000 then some (.lst ((TL.spl s 0 [] x).map P.str)) else none
  | _, _ => none
def partL (s x : List Nat) : List Nat × List Nat × List Nat := match TL.par s [] x with
  | some (a, b) => (a, s, b)
  | none => (x, [], [])
def pPartition : P → List P → Option P
  | .str x, [.str s] => if s ≠ [] ∧ x.length ≤ 100000 then some (.tup [.str (partL s x).1, .str (partL s x).2.1, .str (partL s x).2.2]) else none
  | _, _ => none
def pCount : P → List P → Option P
  | .str x, [.str s] => some (.int (Txt.count (strOf x) (strOf s)))
  | _, _ => none
def flatP : P → Bool
  | .non => true
  | .bl _ => true
  | .int _ => true
  | .str _ => true
  | _ => false
def idxP (y : P) : List P → Nat → Option Nat
  | [], _ => none
  | x :: xs, i => if x.eqv y then some i else idxP y xs (i + 1)
def pIndex : P → List P → Option P
  | .lst xs, [y] => if flatP y && xs.all flatP then (idxP y xs 0).map fun (i : Nat) => .int i else none
  | _, _ => none
section
variable {K : PySem.W.Frag} {F H : Hp}
theorem flat_rep {x : P} {v : V} (h : flatP x = true) (r : Rep K F x v) : flatV v = true := by
  cases x with
  | non => have r : _ = _ := r; subst r; rfl
  | bl _ => have r : _ = _ := r; subst r; rfl
  | int _ => have r : _ = _ := r; subst r; rfl
  | str _ => have r : _ = _ := r; subst r; rfl
  | _ => cases h
theorem flat_eqv {x y : P} {v w : V} (hx : flatP x = true) (hy : flatP y = true) (r : Rep K F x v) (q : Rep K F y w) : eqV v w = x.eqv y := by
  cases x with
  | non =>
    have r : _ = _ := r
    subst r
    cases y <;> first | (have q : _ = _ := q; subst q; rfl) | cases hy
  | bl _ =>
    have r : _ = _ := r
    subst r
    cases y <;> first | (have q : _ = _ := q; subst q; rfl) | cases hy
  | int _ =>
    have r : _ = _ := r
    subst r
    cases y <;> first | (have q : _ = _ := q; subst q; rfl) | cases hy
  | str x =>
    have r : _ = _ := r
    subst r
    cases y with
    | str y =>
      have q : _ = _ := q
      subst q
      show (strOf x == strOf y) = (x == y)
      exact strOf_beq x y
    | non => have q : _ = _ := q; subst q; rfl
    | bl _ => have q : _ = _ := q; subst q; rfl
    | int _ => have q : _ = _ := q; subst q; rfl
    | _ => cases hy
  | _ => cases hx
theorem flats_rep : ∀ {xs : List P} {vs : List V}, xs.all flatP = true → RepL K F xs vs → vs.all flatV = true
  | [], vs, _, r => by
    have r : _ = _ := r
    subst r
    rfl
  | x :: xs, vs, h, ⟨v, w, e1, h1, h2⟩ => by
    subst e1
    rw [List.all_cons, Bool.and_eq_true] at h
    rw [List.all_cons, flat_rep h.1 h1, flats_rep h.2 h2]
    rfl
theorem idxP_some : ∀ {y : P} {xs : List P} {i n : Nat}, idxP y xs i = some n → ∃ j x, n = i + j ∧ xs[j]? = some x ∧ x.eqv y = true ∧ ∀ (m : Nat) (z : P), m < j → xs[m]? = some z → z.eqv y = false
  | y, [], i, n, e => by cases e
  | y, x :: xs, i, n, e => by
    unfold idxP at e
    split at e
    · rename_i h
      cases e
      exact ⟨0, x, rfl, rfl, h, fun m z hm => by omega⟩
    · rename_i h
      obtain ⟨j, z, h1, h2, h3, h4⟩ := idxP_some e
      refine ⟨j + 1, z, by omega, by simpa using h2, h3, fun m w hm hw => ?_⟩
      cases m with
      | zero =>
        have : x = w := by simpa using hw
        subst this
        exact Bool.eq_false_iff.mpr h
      | succ m => exact h4 m w (by omega) (by simpa using hw)
theorem ok_index : CallOk K (rM (rIndex K)) fun xs => match xs with
    | x :: r => pIndex x r
    | [] => none := by
  intro io F S H xs vs z Q st rx e k
  match xs, e with
  | [.lst xs, y], e =>
    obtain ⟨v, w, rfl, r1, r2⟩ := rx.two
    obtain ⟨a, vs, rfl, ha, ra⟩ := r1
    have e : (if flatP y && xs.all flatP then (idxP y xs 0).map fun (i : Nat) => P.int i else none) = some z := e
    split at e
    · rename_i hf
      rw [Bool.and_eq_true] at hf
      cases q : idxP y xs 0 with
      | none => rw [q] at e; cases e
      | some n =>
        rw [q] at e
        cases e
        obtain ⟨j, x, h1, h2, h3, h4⟩ := idxP_some q
        have h1 : n = j := by omega
        subst h1
        have ry : Rep K F y w := by
          cases y <;> first | exact r2 | cases hf.1
        obtain ⟨u, hu, hr⟩ := ra.get h2
        have fx : flatP x = true := List.all_eq_true.mp hf.2 x (List.mem_of_getElem? h2)
        refine ⟨a, vs, w, n, u, rfl, rfl, SqL.of ha, flat_rep hf.1 ry, flats_rep hf.2 ra, hu, by rw [flat_eqv fx hf.1 hr ry]; exact h3, fun m z' hm hz' => ?_, k F H _ Nxt.refl st rfl⟩
        obtain ⟨x', hx', hr'⟩ := ra.getV hz'
        rw [flat_eqv (List.all_eq_true.mp hf.2 x' (List.mem_of_getElem? hx')) hf.1 hr' ry]
        exact h4 m x' hm hx'
    · cases e
theorem joinL_ok (s : List Nat) (ys : List (List Nat)) : Txt.join (strOf s) (ys.map strOf) = strOf (TL.joinL s ys) := by
  have h := TL.tl_join (strOf s) (ys.map strOf)
  have h2 : (ys.map strOf).map TL.tl = ys := by
    rw [List.map_map]
    have : (TL.tl ∘ strOf) = id := by
      funext x
      rfl
    rw [this, List.map_id]
  rw [h2] at h
  have h3 : Txt.join (strOf s) (ys.map strOf) = Str.join (strOf s) (ys.map strOf) := TL.join_eq _ _
  rw [h3]
  have h4 : TL.tl (Str.join (strOf s) (ys.map strOf)) = TL.joinL s ys := h
  rw [← h4]
  exact (strOf_toList _).symm
theorem len_strOf (ys : List (List Nat)) : ((ys.map strOf).map (·.length)) = ys.map (·.length) := by
  rw [List.map_map]
  apply List.map_congr_left
  intro a _
  exact strOf_length a
theorem ok_join : CallOk K (rM (fun x xs H Q => ∃ a p, ∃ ys : List Str, x = .str a ∧ xs = [.ref p] ∧ (SqL K H p (ys.map V.str) ∨ SqT K H p (ys.map V.str)) ∧
    (ys.map (·.length)).sum + ys.length * a.length ≤ 16777216 ∧ Q (.str (Txt.join a ys)) H)) fun xs => match xs with
    | x :: r => pJoin x r
    | [] => none := by
  intro io F S H xs vs z Q st rx e k
  match xs, e with
  | [.str s, .lst xs], e =>
    obtain ⟨v, w, rfl, r1, r2⟩ := rx.two
    have r1 : v = .str (strOf s) := r1
    subst r1
    obtain ⟨a, vs, rfl, ha, ra⟩ := r2
    have e : ((strsOf xs).bind fun ys => if (ys.map (·.length)).sum + ys.length * s.length ≤ 1000000 then some (P.str (TL.joinL s ys)) else none) = some z := e
    cases q : strsOf xs with
    | none => rw [q] at e; cases e
    | some ys =>
      rw [q] at e
      have e : (if (ys.map (·.length)).sum + ys.length * s.length ≤ 1000000 then some (P.str (TL.joinL s ys)) else none) = some z := e
      split at e
      · rename_i hz
        cases e
        obtain ⟨h1, h2⟩ := strsOf_rep ra q
        subst h1
        refine ⟨strOf s, a, ys.map strOf, rfl, rfl, .inl (SqL.of ha), ?_, ?_⟩
        · rw [len_strOf, List.length_map, strOf_length]
          exact Nat.le_trans hz (by decide)
        · rw [joinL_ok]
          exact k F H _ Nxt.refl st rfl
      · cases e
  | [.str s, .tup xs], e =>
    obtain ⟨v, w, rfl, r1, r2⟩ := rx.two
    have r1 : v = .str (strOf s) := r1
    subst r1
    obtain ⟨a, vs, rfl, ha, ra⟩ := r2
    have e : ((strsOf xs).bind fun ys => if (ys.map (·.length)).sum + ys.length * s.length ≤ 1000000 then some (P.str (TL.joinL s ys)) else none) = some z := e
    cases q : strsOf xs with
    | none => rw [q] at e; cases e
    | some ys =>
      rw [q] at e
      have e : (if (ys.map (·.length)).sum + ys.length * s.length ≤ 1000000 then some (P.str (TL.joinL s ys)) else none) = some z := e
      split at e
      · rename_i hz
        cases e
        obtain ⟨h1, h2⟩ := strsOf_rep ra q
        subst h1
        refine ⟨strOf s, a, ys.map strOf, rfl, rfl, .inr (sqt_mono st.sub ha), ?_, ?_⟩
        · rw [len_strOf, List.length_map, strOf_length]
          exact Nat.le_trans hz (by decide)
        · rw [joinL_ok]
          exact k F H _ Nxt.refl st rfl
      · cases e
theorem map_strOf_txL (ys : List Str) : ((ys.map txL).map strOf) = ys := by
  rw [List.map_map]
  have : (strOf ∘ txL) = id := by
    funext x
    exact strOf_txL x
  rw [this, List.map_id]
theorem split_ok {x s : List Nat} (h1 : s ≠ []) (h2 : (s.all fun c => decide (c < 256)) = true) : Txt.split (strOf x) (strOf s) = (TL.spl s 0 [] x).map strOf := by
  have h := TL.split_spl (strOf x) (strOf s) h1 (TL.kind_ok (by
    show s.toArray.all _ = true
    rw [List.all_toArray]
    exact h2))
  have h3 : ((Txt.split (strOf x) (strOf s)).map txL).map strOf = (TL.spl s 0 [] x).map strOf := congrArg (List.map strOf) h
  rw [map_strOf_txL] at h3
  exact h3
theorem ok_split : CallOk K (rM (fun x xs H Q => ∃ a b, x = .str a ∧ xs = [.str b] ∧ (b.length == 0) = false ∧ a.length + 2 ≤ sizeLine ∧ rNewStrs (Txt.split a b) H Q)) fun xs => match xs with
    | x :: r => pSplit x r
    | [] => none := by
  intro io F S H xs vs z Q st rx e k
  match xs, e with
  | [.str x, .str s], e =>
    obtain ⟨v, w, rfl, r1, r2⟩ := rx.two
    have r1 : v = .str (strOf x) := r1
    have r2 : w = .str (strOf s) := r2
    subst r1; subst r2
    have e : (if s ≠ [] ∧ (s.all fun c => decide (c < 256)) = true ∧ x.length ≤ 1000000 then some (P.lst ((TL.spl s 0 [] x).map P.str)) else none) = some z := e
    split at e
    · rename_i hz
      cases e
      refine ⟨strOf x, strOf s, rfl, rfl, by rw [strOf_length]; simpa using hz.1, by rw [strOf_length]; exact Nat.le_trans (Nat.add_le_add_right hz.2.2 2) (by decide), fun p hp => ?_⟩
      rw [split_ok hz.1 hz.2.1]
      obtain ⟨s3, n3⟩ := st.froze (o := .lst (((TL.spl s 0 [] x).map strOf).map V.str)) hp
      exact k _ _ _ n3 s3 ⟨p, _, rfl, upd_same, repL_strs _⟩
    · cases e
theorem part_ok {x s : List Nat} (h1 : s ≠ []) : Txt.partition (strOf x) (strOf s) = (strOf (partL s x).1, strOf (partL s x).2.1, strOf (partL s x).2.2) := by
  have h := TL.partition_par (strOf x) (strOf s) h1
  rw [h]
  unfold partL
  show (match TL.par s [] x with | some (a, b) => _ | none => _) = _
  cases TL.par s [] x with
  | none => rfl
  | some q => rfl
theorem ok_partition : CallOk K (rM (fun x xs H Q => ∃ a b, x = .str a ∧ xs = [.str b] ∧ (b.length == 0) = false ∧ a.length ≤ sizeLine ∧
    ∀ p, H p = none → Q (.ref p) (upd H p (.tup [.str (Txt.partition a b).1, .str (Txt.partition a b).2.1, .str (Txt.partition a b).2.2])))) fun xs => match xs with
    | x :: r => pPartition x r
    | [] => none := by
  intro io F S H xs vs z Q st rx e k
  match xs, e with
  | [.str x, .str s], e =>
    obtain ⟨v, w, rfl, r1, r2⟩ := rx.two
    have r1 : v = .str (strOf x) := r1
    have r2 : w = .str (strOf s) := r2
    subst r1; subst r2
    have e : (if s ≠ [] ∧ x.length ≤ 100000 then some (P.tup [.str (partL s x).1, .str (partL s x).2.1, .str (partL s x).2.2]) else none) = some z := e
    split at e
    · rename_i hz
      cases e
      refine ⟨strOf x, strOf s, rfl, rfl, by rw [strOf_length]; simpa using hz.1, by rw [strOf_length]; exact sz5 hz.2, fun p hp => ?_⟩
      rw [part_ok hz.1]
      obtain ⟨s3, n3⟩ := st.froze (o := .tup [.str (strOf (partL s x).1), .str (strOf (partL s x).2.1), .str (strOf (partL s x).2.2)]) hp
      exact k _ _ _ n3 s3 ⟨p, _, rfl, SqT.of upd_same, .cons rfl (.cons rfl (.cons rfl .nil))⟩
    · cases e
theorem ok_count : CallOk K (rM (fun x xs H Q => ∃ a b, x = .str a ∧ xs = [.str b] ∧ Q (.int (Txt.count a b)) H)) fun xs => match xs with
    | x :: r => pCount x r
    | [] => none := by
  intro io F S H xs vs z Q st rx e k
  match xs, e with
  | [.str x, .str s], e =>
    obtain ⟨v, w, rfl, r1, r2⟩ := rx.two
    have r1 : v = .str (strOf x) := r1
    have r2 : w = .str (strOf s) := r2
    subst r1; subst r2
    cases e
    exact ⟨strOf x, strOf s, rfl, rfl, k F H _ Nxt.refl st rfl⟩
end
section
variable {X : Cx} {W : WX} {a b c e o : Expr} {ma mb mc mo : ME} {pos p apos : Pos}
theorem oe_len (hm : X.mg "len" = none) (ha : OE X W a ma) (hg : Gl X "len" := by rfl) (hs : starEach [a] X.env = (false, eval a X.env) :: starEach [] X.env := by rfl) : OE X W (.Call (.Name "len" p) [a] [] pos) (eCall pLen (aCons ma aNil)) := oe_callB (CallR.or call_len call_lenD) ok_len hm PySem.boot_len (oa_cons ha oa_nil hs) hg (by decide) (by decide) hs rfl
theorem oe_sum (hc : X.calm = true) (hm : X.mg "sum" = none) (ha : OE X W a ma) (hg : Gl X "sum" := by rfl) (hs : starEach [a] X.env = (false, eval a X.env) :: starEach [] X.env := by rfl) : OE X W (.Call (.Name "sum" p) [a] [] pos) (eCall pSum (aCons ma aNil)) := oe_callB (cr_sum hc) ok_sum hm (by decide +kernel) (oa_cons ha oa_nil hs) hg (by decide) (by decide) hs rfl
theorem oe_all (hc : X.calm = true) (hm : X.mg "all" = none) (ha : OE X W a ma) (hg : Gl X "all" := by rfl) (hs : starEach [a] X.env = (false, eval a X.env) :: starEach [] X.env := by rfl) : OE X W (.Call (.Name "all" p) [a] [] pos) (eCall pAll (aCons ma aNil)) := oe_callB (cr_all hc) ok_all hm (by decide +kernel) (oa_cons ha oa_nil hs) hg (by decide) (by decide) hs rfl
theorem oe_any (hc : X.calm = true) (hm : X.mg "any" = none) (ha : OE X W a ma) (hg : Gl X "any" := by rfl) (hs : starEach [a] X.env = (false, eval a X.env) :: starEach [] X.env := by rfl) : OE X W (.Call (.Name "any" p) [a] [] pos) (eCall pAny (aCons ma aNil)) := oe_callB (cr_any hc) ok_any hm (by decide +kernel) (oa_cons ha oa_nil hs) hg (by decide) (by decide) hs rfl
theorem oe_sorted (hm : X.mg "sorted" = none) (ha : OE X W a ma) (hg : Gl X "sorted" := by rfl) (hs : starEach [a] X.env = (false, eval a X.env) :: starEach [] X.env := by rfl) : OE X W (.Call (.Name "sorted" p) [a] [] pos) (eCall pSorted (aCons ma aNil)) := oe_callB cr_sortedI ok_sorted hm (by decide +kernel) (oa_cons ha oa_nil hs) hg (by decide) (by decide) hs rfl
theorem oe_max (hc : X.calm = true) (hm : X.mg "max" = none) (ha : OE X W a ma) (hg : Gl X "max" := by rfl) (hs : starEach [a] X.env = (false, eval a X.env) :: starEach [] X.env := by rfl) : OE X W (.Call (.Name "max" p) [a] [] pos) (eCall pMax (aCons ma aNil)) := oe_callB (cr_max hc) ok_max hm (by decide +kernel) (oa_cons ha oa_nil hs) hg (by decide) (by decide) hs rfl
theorem oe_min (hc : X.calm = true) (hm : X.mg "min" = none) (ha : OE X W a ma) (hg : Gl X "min" := by rfl) (hs : starEach [a] X.env = (false, eval a X.env) :: starEach [] X.env := by rfl) : OE X W (.Call (.Name "min" p) [a] [] pos) (eCall pMin (aCons ma aNil)) := oe_callB (cr_min hc) ok_min hm (by decide +kernel) (oa_cons ha oa_nil hs) hg (by decide) (by decide) hs rfl
theorem oe_abs (hm : X.mg "abs" = none) (ha : OE X W a ma) (hg : Gl X "abs" := by rfl) (hs : starEach [a] X.env = (false, eval a X.env) :: starEach [] X.env := by rfl) : OE X W (.Call (.Name "abs" p) [a] [] pos) (eCall pAbs (aCons ma aNil)) := oe_callB call_abs ok_abs hm (by decide +kernel) (oa_cons ha oa_nil hs) hg (by decide) (by decide) hs rfl
theorem oe_max2 (hc : X.calm = true) (hm : X.mg "max" = none) (ha : OE X W a ma) (hb : OE X W b mb) (hg : Gl X "max" := by rfl) (hs : starEach [a, b] X.env = (false, eval a X.env) :: starEach [b] X.env := by rfl) (hs2 : starEach [b] X.env = (false, eval b X.env) :: starEach [] X.env := by rfl) (hp : (backTo pos (starEach [b] X.env)).any (·.1) = false := by rfl) :
    OE X W (.Call (.Name "max" p) [a, b] [] pos) (eCall pMax2 (aCons ma (aCons mb aNil))) := oe_callB (call_max2 hc) ok_max2 hm (by decide +kernel) (oa_cons ha (oa_cons hb oa_nil hs2) hs) hg (by decide) (by decide) hs hp
theorem oe_min2 (hc : X.calm = true) (hm : X.mg "min" = none) (ha : OE X W a ma) (hb : OE X W b mb) (hg : Gl X "min" := by rfl) (hs : starEach [a, b] X.env = (false, eval a X.env) :: starEach [b] X.env := by rfl) (hs2 : starEach [b] X.env = (false, eval b X.env) :: starEach [] X.env := by rfl) (hp : (backTo pos (starEach [b] X.env)).any (·.1) = false := by rfl) :
    OE X W (.Call (.Name "min" p) [a, b] [] pos) (eCall pMin2 (aCons ma (aCons mb aNil))) := oe_callB (call_min2 hc) ok_min2 hm (by decide +kernel) (oa_cons ha (oa_cons hb oa_nil hs2) hs) hg (by decide) (by decide) hs hp
theorem oe_divmod (hm : X.mg "divmod" = none) (ha : OE X W a ma) (hb : OE X W b mb) (hg : Gl X "divmod" := by rfl) (hs : starEach [a, b] X.env = (false, eval a X.env) :: starEach [b] X.env := by rfl) (hs2 : starEach [b] X.env = (false, eval b X.env) :: starEach [] X.env := by rfl) (hp : (backTo pos (starEach [b] X.env)).any (·.1) = false := by rfl) :
    OE X W (.Call (.Name "divmod" p) [a, b] [] pos) (eCall pDivmod (aCons ma (aCons mb aNil))) := oe_callB call_divmod ok_divmod hm (by decide +kernel) (oa_cons ha (oa_cons hb oa_nil hs2) hs) hg (by decide) (by decide) hs hp
theorem oe_tupleC (hm : X.mg "tuple" = none) (ha : OE X W a ma) (hg : Gl X "tuple" := by rfl) (hs : starEach [a] X.env = (false, eval a X.env) :: starEach [] X.env := by rfl) : OE X W (.Call (.Name "tuple" p) [a] [] pos) (eCall pTuple (aCons ma aNil)) := oe_callTy call_tuple_of ok_tuple hm (by decide +kernel) (oa_cons ha oa_nil hs) hg (by decide) (by decide) hs rfl
theorem oe_intC (hm : X.mg "int" = none) (ha : OE X W a ma) (hg : Gl X "int" := by rfl) (hs : starEach [a] X.env = (false, eval a X.env) :: starEach [] X.env := by rfl) : OE X W (.Call (.Name "int" p) [a] [] pos) (eCall pInt (aCons ma aNil)) := oe_callTy call_int1 ok_int hm (by decide +kernel) (oa_cons ha oa_nil hs) hg (by decide) (by decide) hs rfl
theorem oe_index (ho : OE X W o mo) (ha : OE X W a ma) (hbase : attributeBase o "index" X.env (eval o X.env) = eval o X.env := by rfl) (hs : starEach [a] X.env = (false, eval a X.env) :: starEach [] X.env := by rfl) (hline : (apos.endLine == pos.line) = true := by rfl)
    (hfew : ((backTo pos (starEach [a] X.env)).all (fun x => !x.1) && (backToKw pos (keywordEach [] X.env)).all (fun x => x.1.isSome) && decide (([a] : List Expr).length + ([] : List Keyword).length + (if ([] : List Keyword).isEmpty then 0 else 1) < 30)) = true := by rfl) :
    OE X W (.Call (.Attribute o "index" apos) [a] [] pos) (eMthT "list" pIndex mo (aCons ma aNil)) := oe_bm PySem.F.plainAttrs_list PySem.F.slot_list_index PySem.F.type_list_index mt_index ok_index ho (oa_cons ha oa_nil hs) hbase hfew hline hs rfl
theorem oe_join (ho : OE X W o mo) (ha : OE X W a ma) (hbase : attributeBase o "join" X.env (eval o X.env) = eval o X.env := by rfl) (hs : starEach [a] X.env = (false, eval a X.env) :: starEach [] X.env := by rfl) (hline : (apos.endLine == pos.line) = true := by rfl)
    (hfew : ((backTo pos (starEach [a] X.env)).all (fun x => !x.1) && (backToKw pos (keywordEach [] X.env)).all (fun x => x.1.isSome) && decide (([a] : List Expr).length + ([] : List Keyword).length + (if ([] : List Keyword).isEmpty then 0 else 1) < 30)) = true := by rfl) :
    OE X W (.Call (.Attribute o "join" apos) [a] [] pos) (eMthT "str" pJoin mo (aCons ma aNil)) := oe_bm PySem.F.plainAttrs_str PySem.F.slot_str_join PySem.F.type_str_join mt_join ok_join ho (oa_cons ha oa_nil hs) hbase hfew hline hs rfl
theorem oe_split (ho : OE X W o mo) (ha : OE X W a ma) (hbase : attributeBase o "split" X.env (eval o X.env) = eval o X.env := by rfl) (hs : starEach [a] X.env = (false, eval a X.env) :: starEach [] X.env := by rfl) (hline : (apos.endLine == pos.line) = true := by rfl)
    (hfew : ((backTo pos (starEach [a] X.env)).all (fun x => !x.1) && (backToKw pos (keywordEach [] X.env)).all (fun x => x.1.isSome) && decide (([a] : List Expr).length + ([] : List Keyword).length + (if ([] : List Keyword).isEmpty then 0 else 1) < 30)) = true := by rfl) :
    OE X W (.Call (.Attribute o "split" apos) [a] [] pos) (eMthT "str" pSplit mo (aCons ma aNil)) := oe_bm PySem.F.plainAttrs_str PySem.F.slot_str_split PySem.F.type_str_split mt_split ok_split ho (oa_cons ha oa_nil hs) hbase hfew hline hs rfl
theorem oe_partition (ho : OE X W o mo) (ha : OE X W a ma) (hbase : attributeBase o "partition" X.env (eval o X.env) = eval o X.env := by rfl) (hs : starEach [a] X.env = (false, eval a X.env) :: starEach [] X.env := by rfl) (hline : (apos.endLine == pos.line) = true := by rfl)
    (hfew : ((backTo pos (starEach [a] X.env)).all (fun x => !x.1) && (backToKw pos (keywordEach [] X.env)).all (fun x => x.1.isSome) && decide (([a] : List Expr).length + ([] : List Keyword).length + (if ([] : List Keyword).isEmpty then 0 else 1) < 30)) = true := by rfl) :
    OE X W (.Call (.Attribute o "partition" apos) [a] [] pos) (eMthT "str" pPartition mo (aCons ma aNil)) := oe_bm PySem.F.plainAttrs_str PySem.F.slot_str_partition PySem.F.type_str_partition mt_partition ok_partition ho (oa_cons ha oa_nil hs) hbase hfew hline hs rfl
theorem oe_count (ho : OE X W o mo) (ha : OE X W a ma) (hbase : attributeBase o "count" X.env (eval o X.env) = eval o X.env := by rfl) (hs : starEach [a] X.env = (false, eval a X.env) :: starEach [] X.env := by rfl) (hline : (apos.endLine == pos.line) = true := by rfl)
    (hfew : ((backTo pos (starEach [a] X.env)).all (fun x => !x.1) && (backToKw pos (keywordEach [] X.env)).all (fun x => x.1.isSome) && decide (([a] : List Expr).length + ([] : List Keyword).length + (if ([] : List Keyword).isEmpty then 0 else 1) < 30)) = true := by rfl) :
    OE X W (.Call (.Attribute o "count" apos) [a] [] pos) (eMthT "str" pCount mo (aCons ma aNil)) := oe_bm PySem.F.plainAttrs_str PySem.F.slot_str_count PySem.F.type_str_count mt_count ok_count ho (oa_cons ha oa_nil hs) hbase hfew hline hs rfl
def pBits : P → Option P
  | .int i => some (.int (Builtin.Int.intBits i : Nat))
  | _ => none
theorem oe_bits (ho : OE X W o mo) (hbase : attributeBase o "bit_length" X.env (eval o X.env) = eval o X.env := by rfl) (hline : (apos.endLine == pos.line) = true := by rfl) : OE X W (.Call (.Attribute o "bit_length" apos) [] [] pos) (eUn pBits mo) := by
  obtain ⟨t, p, ho⟩ := ho
  refine ⟨_, pe_bits p hbase hline, fun ρ S io F σ H Q st en h => ?_⟩
  refine ho ρ S io F σ H _ st en (RG.bind h fun d S1 io1 F1 H1 v e1 n1 s1 r1 h1 => ?_)
  refine s1.op1 (r := fun x H1 Q => ∃ i, x = .int i ∧ Q (.int (Builtin.Int.intBits i : Nat)) H1) (fun io F S H x v z Q st rx e k => ?_) r1 h1
  cases x with
  | int i =>
    cases e
    exact ⟨i, rx, k F H _ Nxt.refl st rfl⟩
  | _ => cases e
def inP (y : P) (xs : List P) : Bool := xs.any fun x => x.eqv y
def occB (x s : List Nat) : Bool := !(Builtin.Str.occurrences (strOf s) (strOf x) 0 (strOf s).length 1).isEmpty
def pIn : P → P → Option P
  | y, .lst xs => if flatP y && xs.all flatP then some (.bl (inP y xs)) else none
  | y, .tup xs => if flatP y && xs.all flatP then some (.bl (inP y xs)) else none
  | .str x, .str s => some (.bl (occB x s))
  | _, _ => none
def pNotIn (x y : P) : Option P := match pIn x y with
  | some (.bl b) => some (.bl (!b))
  | _ => none
theorem inP_ok {K : PySem.W.Frag} {F : Hp} {y : P} {w : V} (hy : flatP y = true) (ry : Rep K F y w) : ∀ {xs : List P} {vs : List V}, xs.all flatP = true → RepL K F xs vs → inV w vs = inP y xs
  | [], vs, _, r => by
    have r : _ = _ := r
    subst r
    rfl
  | x :: xs, vs, h, ⟨v, u, e1, h1, h2⟩ => by
    subst e1
    rw [List.all_cons, Bool.and_eq_true] at h
    show (eqV v w || inV w u) = (x.eqv y || inP y xs)
    rw [flat_eqv h.1 hy h1 ry, inP_ok hy ry h.2 h2]
theorem flatR {K : PySem.W.Frag} {F H : Hp} {y : P} {w : V} (hy : flatP y = true) (r : RepR K F H y w) : Rep K F y w := by
  cases y <;> first | exact r | cases hy
theorem ok_in {K : PySem.W.Frag} : BinOk K (fun x y H Q => rIn K false x y H Q ∨ ∃ i j, x = .str i ∧ y = .str j ∧ Q (.bl (!(Builtin.Str.occurrences j i 0 j.length 1).isEmpty)) H) pIn := by
  intro io F S H x y v w z Q st rx ry e k
  cases y with
  | lst xs =>
    have e : (if flatP x && xs.all flatP then some (P.bl (inP x xs)) else none) = some z := by
      cases x <;> exact e
    split at e
    · rename_i hf
      rw [Bool.and_eq_true] at hf
      cases e
      obtain ⟨a, vs, rfl, ha, ra⟩ := ry
      have rx := flatR hf.1 rx
      refine .inl ⟨a, vs, rfl, .inl (SqL.of ha), flat_rep hf.1 rx, flats_rep hf.2 ra, ?_⟩
      rw [if_neg Bool.false_ne_true, inP_ok hf.1 rx hf.2 ra]
      exact k F H _ Nxt.refl st rfl
    · cases e
  | tup xs =>
    have e : (if flatP x && xs.all flatP then some (P.bl (inP x xs)) else none) = some z := by
      cases x <;> exact e
    split at e
    · rename_i hf
      rw [Bool.and_eq_true] at hf
      cases e
      obtain ⟨a, vs, rfl, ha, ra⟩ := ry
      have rx := flatR hf.1 rx
      refine .inl ⟨a, vs, rfl, .inr (sqt_mono st.sub ha), flat_rep hf.1 rx, flats_rep hf.2 ra, ?_⟩
      rw [if_neg Bool.false_ne_true, inP_ok hf.1 rx hf.2 ra]
      exact k F H _ Nxt.refl st rfl
    · cases e
  | str s =>
    cases x with
    | str x =>
      have rx : _ = _ := rx
      have ry : _ = _ := ry
      subst rx; subst ry
      cases e
      exact .inr ⟨_, _, rfl, rfl, k F H _ Nxt.refl st rfl⟩
    | _ => cases e
  | _ => cases x <;> cases e
theorem ok_notIn {K : PySem.W.Frag} : BinOk K (fun x y H Q => rIn K true x y H Q ∨ ∃ i j, x = .str i ∧ y = .str j ∧ Q (.bl (!(!(Builtin.Str.occurrences j i 0 j.length 1).isEmpty))) H) pNotIn := by
  intro io F S H x y v w z Q st rx ry e k
  unfold pNotIn at e
  cases y with
  | lst xs =>
    have e : (match (if flatP x && xs.all flatP then some (P.bl (inP x xs)) else none) with
      | some (.bl b) => some (P.bl (!b))
      | _ => none) = some z := by
      cases x <;> exact e
    by_cases hf : (flatP x && xs.all flatP) = true
    · rw [if_pos hf] at e
      rw [Bool.and_eq_true] at hf
      cases e
      obtain ⟨a, vs, rfl, ha, ra⟩ := ry
      have rx := flatR hf.1 rx
      refine .inl ⟨a, vs, rfl, .inl (SqL.of ha), flat_rep hf.1 rx, flats_rep hf.2 ra, ?_⟩
      rw [if_pos rfl, inP_ok hf.1 rx hf.2 ra]
      exact k F H _ Nxt.refl st rfl
    · rw [if_neg hf] at e
      cases e
  | tup xs =>
    have e : (match (if flatP x && xs.all flatP then some (P.bl (inP x xs)) else none) with
      | some (.bl b) => some (P.bl (!b))
      | _ => none) = some z := by
      cases x <;> exact e
    by_cases hf : (flatP x && xs.all flatP) = true
    · rw [if_pos hf] at e
      rw [Bool.and_eq_true] at hf
      cases e
      obtain ⟨a, vs, rfl, ha, ra⟩ := ry
      have rx := flatR hf.1 rx
      refine .inl ⟨a, vs, rfl, .inr (sqt_mono st.sub ha), flat_rep hf.1 rx, flats_rep hf.2 ra, ?_⟩
      rw [if_pos rfl, inP_ok hf.1 rx hf.2 ra]
      exact k F H _ Nxt.refl st rfl
    · rw [if_neg hf] at e
      cases e
  | str s =>
    cases x with
    | str x =>
      have rx : _ = _ := rx
      have ry : _ = _ := ry
      subst rx; subst ry
      cases e
      exact .inr ⟨_, _, rfl, rfl, k F H _ Nxt.refl st rfl⟩
    | _ => cases e
  | _ => cases x <;> cases e
def pMul : P → P → Option P
  | .int i, .int j => if bMul i j then some (.int (i * j)) else none
  | .lst xs, .int j => if 0 ≤ j ∧ j ≤ 1000 ∧ xs.length ≤ 1000 then some (.lst (List.replicate j.toNat xs).flatten) else none
  | _, _ => none
theorem repL_flat {K : PySem.W.Frag} {F : Hp} {xs : List P} {vs : List V} (r : RepL K F xs vs) : ∀ n, RepL K F (List.replicate n xs).flatten (List.replicate n vs).flatten
  | 0 => .nil
  | n + 1 => by
    rw [List.replicate_succ, List.replicate_succ, List.flatten_cons, List.flatten_cons]
    exact r.append (repL_flat r n)
theorem ok_mul {K : PySem.W.Frag} : BinOk K (fun x y H Q => (rI CMul fun i j => .int (i * j)) x y H Q ∨ rRep x y H Q) pMul := by
  intro io F S H x y v w z Q st rx ry e k
  cases y with
  | int j =>
    have ry : _ = _ := ry
    subst ry
    cases x with
    | int i =>
      have rx : _ = _ := rx
      subst rx
      have e : (if bMul i j then some (P.int (i * j)) else none) = some z := e
      split at e
      · rename_i hb
        cases e
        exact .inl ⟨i, j, rfl, rfl, bMul_ok i j hb, k F H _ Nxt.refl st rfl⟩
      · cases e
    | lst xs =>
      obtain ⟨a, vs, rfl, ha, ra⟩ := rx
      have e : (if 0 ≤ j ∧ j ≤ 1000 ∧ xs.length ≤ 1000 then some (P.lst (List.replicate j.toNat xs).flatten) else none) = some z := e
      split at e
      · rename_i hb
        cases e
        obtain ⟨h0, h1, h2⟩ := hb
        have hz : vs.length * j.toNat ≤ sizeLine := by
          rw [ra.length]
          have : j.toNat ≤ 1000 := by omega
          exact Nat.le_trans (Nat.mul_le_mul h2 this) (by decide)
        refine .inr ⟨a, j, vs, rfl, rfl, ha, by omega, by omega, hz, fun p hp => ?_⟩
        obtain ⟨s3, n3⟩ := st.froze (o := .lst (List.replicate j.toNat vs).flatten) hp
        exact k _ _ _ n3 s3 ⟨p, _, rfl, upd_same, RepL.mono n3.fr (repL_flat ra _)⟩
      · cases e
    | _ => cases e
  | _ => cases x <;> cases e
theorem oe_mul (ha : OE X W a ma) (hb : OE X W b mb) : OE X W (.BinOp a .Mult b pos) (eBin pMul ma mb) := oe_bin (OpR.or op_mul op_rep) ok_mul ha hb
end
end Mir

namespace Mir
open PySem L2
def tE (K : PySem.W.Frag) (W : WX) (m : ME) : TE := fun σ H Q => ∃ ρ S io F, Sta K io F S H ∧ Mir.Env K io F ρ σ ∧ RG K (RepA K) (m ρ S) io F H Q (fun c d H' => W c d σ H')
def tT (K : PySem.W.Frag) (W : WX) (m : MT) : TT := fun σ H Q => ∃ ρ S io F, Sta K io F S H ∧ Mir.Env K io F ρ σ ∧ RG K RepB (m ρ S) io F H Q (fun c d H' => W c d σ H')
section
variable {X : Cx} {W : WX}
theorem OE.pe {e : Expr} {m : ME} (h : OE X W e m) : PE X e (tE X.K W m) := by
  obtain ⟨t, p, h⟩ := h
  exact ⟨fun pins s σ H Q I ⟨ρ, S, io, F, st, en, q⟩ => p.run pins s σ H Q I (h ρ S io F σ H Q st en q)⟩
theorem OT.pt {e : Expr} {m : MT} (h : OT X W e m) : PT X e (tT X.K W m) := by
  obtain ⟨t, p, h⟩ := h
  exact ⟨fun pins s σ H Q I ⟨ρ, S, io, F, st, en, q⟩ => p.run pins s σ H Q I (h ρ S io F σ H Q st en q)⟩
end
abbrev MG := Vl → En → Sto → Res En
def Agree (js : List Nat) (σ σ' : St) : Prop := σ'.length = σ.length ∧ ∀ j : Nat, j ∉ js → σ'[j]? = σ[j]?
def RepEn (K : PySem.W.Frag) (js : List Nat) (σ : St) : Io → Hp → En → St → Prop := fun io F ρ σ' => Mir.Env K io F ρ σ' ∧ Agree js σ σ'
def OG (X : Cx) (W : WX) (tg : Expr) (js : List Nat) (m : MG) : Prop := ∃ t, PG X tg t ∧ ∀ (d : Vl) (v : V) (ρ : En) (S : Sto) (io : Io) (F : Hp) (σ : St) (H : Hp) (Q : St → Hp → Prop), Sta X.K io F S H → Mir.Env X.K io F ρ σ → RepV X.K io F d v →
  RG X.K (RepEn X.K js σ) (m d ρ S) io F H Q (fun c d H' => W c d σ H') → t v σ H Q
def tG (K : PySem.W.Frag) (W : WX) (js : List Nat) (m : MG) : TG := fun v σ H Q => ∃ d ρ S io F, Sta K io F S H ∧ Mir.Env K io F ρ σ ∧ RepV K io F d v ∧ RG K (RepEn K js σ) (m d ρ S) io F H Q (fun c d H' => W c d σ H')
theorem OG.pg {X : Cx} {W : WX} {tg : Expr} {js : List Nat} {m : MG} (h : OG X W tg js m) : PG X tg (tG X.K W js m) := by
  obtain ⟨t, p, h⟩ := h
  exact ⟨fun pins s σ H v u Q I r ⟨d, ρ, S, io, F, st, en, rv, q⟩ => p.run pins s σ H v u Q I r (h d v ρ S io F σ H Q st en rv q)⟩
def gNm (i : Nat) : MG := fun d ρ S => .ok (ρ.set i (some d)) S
theorem agree_refl {js : List Nat} {σ : St} : Agree js σ σ := ⟨rfl, fun _ _ => rfl⟩
theorem agree_set {i : Nat} {σ : St} {o : Option V} : Agree [i] σ (σ.set i o) := ⟨by rw [List.length_set], fun j hj => by
  rw [List.getElem?_set_ne]
  intro e
  exact hj (by rw [e]; exact List.mem_singleton.mpr rfl)⟩
theorem agree_trans {is js : List Nat} {a b c : St} (h : Agree is a b) (h' : Agree js b c) : Agree (is ++ js) a c := ⟨h'.1.trans h.1, fun j hj => by
  rw [List.mem_append, not_or] at hj
  rw [h'.2 j hj.2, h.2 j hj.1]⟩
theorem wipe_get : ∀ (τ : St) (vs : List Nat) (j : Nat), (L2.wipe τ vs)[j]? = if j ∈ vs then (τ[j]?).map (fun _ => none) else τ[j]? := by
  intro τ vs
  induction vs with
  | nil => intro j; simp [L2.wipe]
  | cons v vs ih =>
    intro j
    unfold L2.wipe
    by_cases hj : v = j
    · subst hj
      rw [if_pos List.mem_cons_self]
      by_cases hl : v < (L2.wipe τ vs).length
      · rw [List.getElem?_set_self hl]
        rw [wipe_length] at hl
        rw [List.getElem?_eq_getElem hl]
        rfl
      · rw [List.getElem?_eq_none (by rw [List.length_set]; omega)]
        rw [wipe_length] at hl
        rw [List.getElem?_eq_none (by omega)]
        rfl
    · rw [List.getElem?_set_ne hj, ih j]
      have : (j ∈ v :: vs) ↔ j ∈ vs := by
        constructor
        · intro h
          rcases List.mem_cons.mp h with e | h
          · exact absurd e.symm hj
          · exact h
        · exact List.mem_cons_of_mem _
      simp only [this]
theorem wipe_agree {js vs : List Nat} {σ σ' : St} (h : Agree js σ σ') (hs : ∀ j ∈ js, j ∈ vs) : L2.wipe σ' vs = L2.wipe σ vs := by
  apply List.ext_getElem?
  intro j
  rw [wipe_get, wipe_get]
  by_cases hj : j ∈ vs
  · rw [if_pos hj, if_pos hj]
    by_cases hl : j < σ.length
    · rw [List.getElem?_eq_getElem hl, List.getElem?_eq_getElem (by rw [h.1]; exact hl)]
      rfl
    · rw [List.getElem?_eq_none (by rw [h.1]; omega), List.getElem?_eq_none (by omega)]
  · rw [if_neg hj, if_neg hj]
    exact h.2 j fun z => hj (hs j z)
section
variable {X : Cx} {W : WX} {pos : Pos}
theorem og_name {i : Nat} {x : Str} (hN : X.N.Nodup) (hi : X.N[i]? = some x := by rfl) (hx : Loc X.env.scope x := by first | exact Or.inl rfl | exact Or.inr rfl) (hf : X.fn x = true ∨ X.env.scope.names.lookup x = some .local := by first | exact .inl rfl | exact .inr rfl) : OG X W (.Name x pos) [i] (gNm i) := by
  refine ⟨_, pg_name hN hi hx hf, fun d v ρ S io F σ H Q st en rv h => ?_⟩
  exact h io F H (σ.set i (some v)) Nxt.refl st ⟨en.set rv i, agree_set⟩
abbrev MGs := List Vl → En → Sto → Res En
def OGs (X : Cx) (W : WX) (ts : List Expr) (js : List Nat) (m : MGs) : Prop := ∃ t, PGs X ts t ∧ ∀ (ds : List Vl) (vs : List V) (ρ : En) (S : Sto) (io : Io) (F : Hp) (σ : St) (H : Hp) (Q : St → Hp → Prop), Sta X.K io F S H → Mir.Env X.K io F ρ σ → RepVs X.K io F ds vs →
  RG X.K (RepEn X.K js σ) (m ds ρ S) io F H Q (fun c d H' => W c d σ H') → t vs σ H Q
def gNl : MGs := fun ds ρ S => match ds with
  | [] => .ok ρ S
  | _ => .bad
def Res.nox {A : Type} (r : Res A) : Res A := match r with
  | .ok a S => .ok a S
  | _ => .bad
theorem RG.nox {K : PySem.W.Frag} {A B C D : Type} {R : Io → Hp → A → B → Prop} {R' : Io → Hp → C → D → Prop} {Q : D → Hp → Prop} {Q1 : B → Hp → Prop} {E E1 : XK} {io : Io} {F H : Hp} {r : Res A} {f : A → Sto → Res C} (h : RG K R' (r.nox.bind f) io F H Q E)
    (k : ∀ a S1 io1 F1 H1 v, r = .ok a S1 → Nxt io F H io1 F1 H1 → Sta K io1 F1 S1 H1 → R io1 F1 a v → RG K R' (f a S1) io1 F1 H1 Q E → Q1 v H1) : RG K R r io F H Q1 E1 := by
  cases r with
  | ok a S => exact fun io' F' H' v n s rp => k a S io' F' H' v rfl n s rp (RG.step n h)
  | exc c x S => exact h.elim
  | bad => exact h
def gCn (g : MG) (r : MGs) : MGs := fun ds ρ S => match ds with
  | d :: ds => (g d ρ S).nox.bind fun ρ1 S1 => r ds ρ1 S1
  | [] => .bad
theorem ogs_nil : OGs X W [] [] gNl := by
  refine ⟨_, pgs_nil, fun ds vs ρ S io F σ H Q st en rv h => ?_⟩
  cases ds with
  | nil =>
    have rv : _ = _ := rv
    subst rv
    exact ⟨rfl, h io F H σ Nxt.refl st ⟨en, agree_refl⟩⟩
  | cons d ds => exact h.elim
theorem RG.imp {K : PySem.W.Frag} {A B : Type} {R R1 : Io → Hp → A → B → Prop} {Q : B → Hp → Prop} {E : XK} {io : Io} {F H : Hp} {r : Res A} (hr : ∀ io F a b, R1 io F a b → R io F a b) (h : RG K R r io F H Q E) : RG K R1 r io F H Q E := by
  cases r with
  | ok a S => exact fun io' F' H' v n s rp => h io' F' H' v n s (hr _ _ _ _ rp)
  | exc c x S => exact h
  | bad => exact h
theorem ogs_cons {e : Expr} {es : List Expr} {js ks : List Nat} {g : MG} {r : MGs} (h1 : OG X (fun _ _ _ _ => False) e js g) (h2 : OGs X (fun _ _ _ _ => False) es ks r) (hs : (assignEach (e :: es) X.env).map (·.2) = assign e X.env :: (assignEach es X.env).map (·.2) := by rfl) : OGs X (fun _ _ _ _ => False) (e :: es) (js ++ ks) (gCn g r) := by
  obtain ⟨t, p, h1⟩ := h1
  obtain ⟨u, q, h2⟩ := h2
  refine ⟨_, pgs_cons p q hs, fun ds vs ρ S io F σ H Q st en rv h => ?_⟩
  cases ds with
  | nil => exact h.elim
  | cons d ds =>
    obtain ⟨v, w, e1, r1, r2⟩ := rv
    subst e1
    refine ⟨v, w, rfl, ?_⟩
    refine h1 d v ρ S io F σ H _ st en r1 (RG.nox h fun ρ1 S1 io1 F1 H1 σ1 e1 n1 s1 rr h3 => ?_)
    refine h2 ds w ρ1 S1 io1 F1 σ1 H1 Q s1 rr.1 (r2.mono n1.han n1.fr) (RG.imp ?_ h3)
    rintro io F ρ2 σ2 ⟨a, b⟩
    exact ⟨a, agree_trans rr.2 b⟩
def gTp (n : Nat) (r : MGs) : MG := fun d ρ S => match d with
  | .p (.tup xs) => if xs.length = n then r (xs.map Vl.p) ρ S else .bad
  | _ => .bad
theorem og_tup {es : List Expr} {k n : Nat} {js : List Nat} {r : MGs} (hc : X.calm = true) (h : OGs X W es js r) (hn : (assignEach es X.env).length = n := by rfl) (hst : (assignEach es X.env).findIdx? (·.1) = none := by rfl) : OG X W (.Tuple es k pos) js (gTp n r) := by
  obtain ⟨t, p, h⟩ := h
  refine ⟨_, pg_tup hc p hn hst, fun d v ρ S io F σ H Q st en rv hw => ?_⟩
  cases d with
  | c k => exact hw.elim
  | p x =>
    cases x with
    | tup xs =>
      obtain ⟨a, vs, rfl, ha, ra⟩ := rv
      have hw : RG X.K (RepEn X.K js σ) (if xs.length = n then r (xs.map Vl.p) ρ S else .bad) io F H Q (fun c d H' => W c d σ H') := hw
      by_cases hl : xs.length = n
      · rw [if_pos hl] at hw
        exact ⟨a, vs, rfl, sqt_mono st.sub ha, by rw [ra.length]; exact hl, h _ vs ρ S io F σ H Q st en (RepVs.pure.mpr ra) hw⟩
      · rw [if_neg hl] at hw
        exact hw.elim
    | _ => exact hw.elim
end
def IterOk (K : PySem.W.Frag) (F : Hp) (xs : List P) (J : It) : Prop := ∀ (io' : Io) (F' : Hp) (S' : Sto) (H' : Hp) (i : Nat), Same F F' → Sta K io' F' S' H' →
  (∀ x, xs[i]? = some x → J.go i H' ∧ ∀ v H'', J.yld i H' v H'' → ∃ F'', Nxt io' F' H' io' F'' H'' ∧ Sta K io' F'' S' H'' ∧ Rep K F'' x v) ∧ (xs[i]? = none → J.stop i H')
def RepJ (K : PySem.W.Frag) : Io → Hp → List P → It → Prop := fun _ F xs J => IterOk K F xs J
abbrev MI := En → Sto → Res (List P)
def OI (X : Cx) (W : WX) (tg iter : Expr) (m : MI) : Prop := ∃ t, PI X tg iter t ∧ ∀ (ρ : En) (S : Sto) (io : Io) (F : Hp) (σ : St) (H : Hp) (R : It → Hp → Prop), Sta X.K io F S H → Mir.Env X.K io F ρ σ →
  RG X.K (RepJ X.K) (m ρ S) io F H R (fun c d H' => W c d σ H') → t σ H R
theorem PI.or {X : Cx} {tg iter : Expr} {a b : TI} (h : PI X tg iter a) (h' : PI X tg iter b) : PI X tg iter (fun σ H R => a σ H R ∨ b σ H R) := ⟨fun pins s σ H R I q => by
  rcases q with q | q
  · exact h.run pins s σ H R I q
  · exact h'.run pins s σ H R I q⟩
def itemsP : P → Option (List P)
  | .lst xs => some xs
  | .tup xs => some xs
  | .scr xs => some xs
  | .str x => some (x.map fun c => .str [c])
  | _ => none
def itOf (m : ME) : MI := fun ρ S => (m ρ S).bind fun d S1 => (frz d S1).bind fun x S2 => match itemsP x with
  | some xs => .ok xs S2
  | none => .bad
section
variable {K : PySem.W.Frag} {F : Hp}
theorem iter_list {a : Addr} {xs : List P} {vs : List V} (h : SqL K F a vs) (r : RepL K F xs vs) : IterOk K F xs (Itl K a) := by
  intro io' F' S' H' i hF st
  have hs : SqL K H' a vs := sql_mono (hF.trans st.sub) h
  refine ⟨fun x hx => ?_, fun hx => ?_⟩
  · obtain ⟨v, hv, hr⟩ := r.get hx
    refine ⟨⟨vs, v, hs, hv⟩, fun w H'' y => ?_⟩
    obtain ⟨e, y⟩ := y
    subst e
    have := y vs hs
    rw [hv] at this
    cases this
    exact ⟨F', Nxt.refl, st, Rep.mono hF hr⟩
  · refine ⟨vs, hs, ?_⟩
    rw [r.length]
    exact List.getElem?_eq_none_iff.mp hx
theorem iter_tup {a : Addr} {xs : List P} {vs : List V} (h : SqT K F a vs) (r : RepL K F xs vs) : IterOk K F xs (Itt K a) := by
  intro io' F' S' H' i hF st
  have hs : SqT K H' a vs := sqt_mono (hF.trans st.sub) h
  refine ⟨fun x hx => ?_, fun hx => ?_⟩
  · obtain ⟨v, hv, hr⟩ := r.get hx
    refine ⟨⟨vs, v, hs, hv⟩, fun w H'' y => ?_⟩
    obtain ⟨e, y⟩ := y
    subst e
    have := y vs hs
    rw [hv] at this
    cases this
    exact ⟨F', Nxt.refl, st, Rep.mono hF hr⟩
  · refine ⟨vs, hs, ?_⟩
    rw [r.length]
    exact List.getElem?_eq_none_iff.mp hx
theorem iter_str {x : List Nat} : IterOk K F (x.map fun c => P.str [c]) (Its (strOf x)) := by
  intro io' F' S' H' i hF st
  refine ⟨fun y hy => ?_, fun hy => ?_⟩
  · rw [List.getElem?_map] at hy
    cases hc : x[i]? with
    | none => rw [hc] at hy; cases hy
    | some c =>
      rw [hc] at hy
      have hy : P.str [c] = y := Option.some.inj hy
      subst hy
      have hi : i < x.length := (List.getElem?_eq_some_iff.mp hc).1
      refine ⟨by show i < x.toArray.size; simpa using hi, fun v H'' yl => ?_⟩
      obtain ⟨e, c', hc', hv⟩ := yl
      subst e
      have : x[i]? = some c' := by
        have hc'' : x.toArray[i]? = some c' := hc'
        simpa using hc''
      rw [hc] at this
      cases this
      exact ⟨F', Nxt.refl, st, hv⟩
  · rw [List.getElem?_map] at hy
    show x.toArray.size ≤ i
    cases hc : x[i]? with
    | none =>
      have := List.getElem?_eq_none_iff.mp hc
      simpa using this
    | some c => rw [hc] at hy; cases hy
end
section
variable {X : Cx} {W : WX} {a b e : Expr} {ma mb : ME} {pos p tpos : Pos} {tg : Expr}
theorem oi_of (h : OE X W e ma) : OI X W tg e (itOf ma) := by
  obtain ⟨t, pe, h⟩ := h
  refine ⟨_, PI.or (PI.or (pi_list pe) (pi_tup pe)) (pi_str pe), fun ρ S io F σ H R st en hw => ?_⟩
  cases e1 : ma ρ S with
  | bad => unfold itOf at hw; rw [e1] at hw; exact hw.elim
  | exc c x S1 =>
    refine .inl (.inl (h ρ S io F σ H _ st en ?_))
    unfold itOf at hw
    rw [e1] at hw ⊢
    exact hw
  | ok d S1 =>
    have hw : RG X.K (RepJ X.K) ((frz d S1).bind fun x S2 => match itemsP x with
      | some xs => .ok xs S2
      | none => .bad) io F H R (fun c d H' => W c d σ H') := by
      unfold itOf at hw
      rw [e1] at hw
      exact hw
    have go : ∀ (Q : VK), (∀ io1 F1 H1 v, Nxt io F H io1 F1 H1 → Sta X.K io1 F1 S1 H1 → RepV X.K io1 F1 d v → Q v H1) → t σ H Q := fun Q q => h ρ S io F σ H Q st en (by rw [e1]; exact q)
    cases e2 : frz d S1 with
    | bad => rw [e2] at hw; exact hw.elim
    | exc c x S2 =>
      exact absurd e2 (frz_nox _ _ _ _ _)
    | ok x S2 =>
      cases x with
      | lst xs =>
        refine .inl (.inl (go _ fun io1 F1 H1 v n1 s1 r1 => ?_))
        obtain ⟨x', S2', F2, n2, s2, rp, hz, h2⟩ := s1.frz r1 (RG.step n1 hw)
        rw [e2] at hz; cases hz
        obtain ⟨a, vs, rfl, ha, ra⟩ := rp
        exact ⟨a, rfl, ⟨vs, SqL.of (s2.sub _ _ ha)⟩, h2 io1 F2 H1 (Itl X.K a) Nxt.refl s2 (iter_list (SqL.of ha) ra)⟩
      | scr xs =>
        refine .inl (.inl (go _ fun io1 F1 H1 v n1 s1 r1 => ?_))
        obtain ⟨x', S2', F2, n2, s2, rp, hz, h2⟩ := s1.frz r1 (RG.step n1 hw)
        rw [e2] at hz; cases hz
        obtain ⟨a, vs, rfl, ha, ra⟩ := rp
        exact ⟨a, rfl, ⟨vs, sql_mono s2.sub ha⟩, h2 io1 F2 H1 (Itl X.K a) Nxt.refl s2 (iter_list ha ra)⟩
      | tup xs =>
        refine .inl (.inr (go _ fun io1 F1 H1 v n1 s1 r1 => ?_))
        obtain ⟨x', S2', F2, n2, s2, rp, hz, h2⟩ := s1.frz r1 (RG.step n1 hw)
        rw [e2] at hz; cases hz
        obtain ⟨a, vs, rfl, ha, ra⟩ := rp
        exact ⟨a, rfl, ⟨vs, sqt_mono s2.sub ha⟩, h2 io1 F2 H1 (Itt X.K a) Nxt.refl s2 (iter_tup ha ra)⟩
      | str xs =>
        refine .inr (go _ fun io1 F1 H1 v n1 s1 r1 => ?_)
        obtain ⟨x', S2', F2, n2, s2, rp, hz, h2⟩ := s1.frz r1 (RG.step n1 hw)
        rw [e2] at hz; cases hz
        have rp : v = .str (strOf xs) := rp
        subst rp
        exact ⟨strOf xs, rfl, h2 io1 F2 H1 (Its (strOf xs)) Nxt.refl s2 iter_str⟩
      | _ => rw [e2] at hw; exact hw.elim
def rangeP (lo : Int) (n : Nat) : List P := (List.range n).map fun (k : Nat) => P.int (lo + (k : Int))
def itRange1 (m : ME) : MI := fun ρ S => (m ρ S).bind fun d S1 => match d with
  | .p (.int j) => if j < 2 ^ 62 ∧ -(2 ^ 62) ≤ j then .ok (rangeP 0 j.toNat) S1 else .bad
  | _ => .bad
def itRange2 (m m2 : ME) : MI := fun ρ S => (m ρ S).bind fun d S1 => (m2 ρ S1).bind fun d2 S2 => match d, d2 with
  | .p (.int i), .p (.int j) => if (-(2 ^ 62) ≤ i ∧ i < 2 ^ 62) ∧ (-(2 ^ 62) ≤ j ∧ j < 2 ^ 62) then .ok (rangeP i (j - i).toNat) S2 else .bad
  | _, _ => .bad
theorem iter_range {K : PySem.W.Frag} {F : Hp} {lo : Int} {n : Nat} : IterOk K F (rangeP lo n) (Itr lo n) := by
  intro io' F' S' H' i hF st
  have hl : (rangeP lo n)[i]? = if i < n then some (P.int (lo + (i : Int))) else none := by
    unfold rangeP
    rw [List.getElem?_map]
    by_cases hi : i < n
    · rw [if_pos hi, List.getElem?_range hi]; rfl
    · rw [if_neg hi, List.getElem?_eq_none (by simpa using hi)]; rfl
  refine ⟨fun x hx => ?_, fun hx => ?_⟩
  · rw [hl] at hx
    by_cases hi : i < n
    · rw [if_pos hi] at hx
      cases hx
      refine ⟨hi, fun v H'' y => ?_⟩
      obtain ⟨e, hv⟩ := y
      subst e
      exact ⟨F', Nxt.refl, st, hv⟩
    · rw [if_neg hi] at hx; cases hx
  · rw [hl] at hx
    by_cases hi : i < n
    · rw [if_pos hi] at hx; cases hx
    · exact Nat.le_of_not_lt hi
theorem oi_range1 (hm : X.mg "range" = none) (h : OE X W a ma) (hg : Gl X "range" := by rfl) (hs : starEach [a] X.env = (false, eval a X.env) :: starEach [] X.env := by rfl) : OI X W tg (.Call (.Name "range" p) [a] [] pos) (itRange1 ma) := by
  obtain ⟨t, q, h⟩ := h
  refine ⟨_, pi_range1 hg hm (pa_cons q pa_nil hs) hs, fun ρ S io F σ H R st en hw => ?_⟩
  refine h ρ S io F σ H _ st en (RG.bind hw fun d S1 io1 F1 H1 v e1 n1 s1 r1 h1 => ?_)
  cases d with
  | c k => exact h1.elim
  | p x =>
    cases x with
    | int j =>
      have r1 : v = .int j := r1
      subst r1
      dsimp only at h1
      by_cases hb : j < 2 ^ 62 ∧ -(2 ^ 62) ≤ j
      · rw [if_pos hb] at h1
        exact ⟨j, rfl, hb.2, hb.1, h1 io1 F1 H1 _ Nxt.refl s1 iter_range⟩
      · rw [if_neg hb] at h1
        exact h1.elim
    | _ => exact h1.elim
theorem oi_range2 (hm : X.mg "range" = none) (h : OE X W a ma) (h' : OE X W b mb) (hg : Gl X "range" := by rfl) (hs : starEach [a, b] X.env = (false, eval a X.env) :: starEach [b] X.env := by rfl) (hs2 : starEach [b] X.env = (false, eval b X.env) :: starEach [] X.env := by rfl)
    (hs3 : starEach [a, b] X.env = [(false, eval a X.env), (false, eval b X.env)] := by rfl) : OI X W tg (.Call (.Name "range" p) [a, b] [] pos) (itRange2 ma mb) := by
  obtain ⟨t, q, h⟩ := h
  obtain ⟨t2, q2, h'⟩ := h'
  refine ⟨_, pi_range2 hg hm (pa_cons q (pa_cons q2 pa_nil hs2) hs) hs3 hs2, fun ρ S io F σ H R st en hw => ?_⟩
  refine h ρ S io F σ H _ st en (RG.bind hw fun d S1 io1 F1 H1 v e1 n1 s1 r1 h1 => ?_)
  refine h' ρ S1 io1 F1 σ H1 _ s1 (en.nxt n1) (RG.bind h1 fun d2 S2 io2 F2 H2 v2 e2 n2 s2 r2 h2 => ?_)
  cases d with
  | c k => exact h2.elim
  | p x =>
    cases x with
    | int i =>
      have r1 : v = .int i := r1
      subst r1
      cases d2 with
      | c k => exact h2.elim
      | p y =>
        cases y with
        | int j =>
          have r2 : v2 = .int j := r2
          subst r2
          dsimp only at h2
          by_cases hb : (-(2 ^ 62) ≤ i ∧ i < 2 ^ 62) ∧ (-(2 ^ 62) ≤ j ∧ j < 2 ^ 62)
          · rw [if_pos hb] at h2
            exact ⟨i, j, rfl, ⟨hb.1.1, hb.1.2, hb.2.1, hb.2.2⟩, h2 io2 F2 H2 _ Nxt.refl s2 iter_range⟩
          · rw [if_neg hb] at h2
            exact h2.elim
        | _ => exact h2.elim
    | _ => exact h2.elim
def enumP (n : Nat) : List P → List P
  | [] => []
  | x :: xs => .tup [.int n, x] :: enumP (n + 1) xs
theorem enumP_get : ∀ (xs : List P) (n i : Nat), (enumP n xs)[i]? = (xs[i]?).map fun x => P.tup [.int ((n + i : Nat) : Int), x]
  | [], n, i => by simp [enumP]
  | x :: xs, n, 0 => by simp [enumP]
  | x :: xs, n, i + 1 => by
    show (enumP (n + 1) xs)[i]? = _
    rw [enumP_get xs (n + 1) i]
    simp only [List.getElem?_cons_succ]
    congr 1
    funext x
    congr 2
    have : ((n + 1 + i : Nat) : Int) = ((n + (i + 1) : Nat) : Int) := by omega
    rw [this]
def itEnum (m : ME) : MI := fun ρ S => (m ρ S).bind fun d S1 => (frz d S1).bind fun x S2 => match x with
  | .lst xs => .ok (enumP 0 xs) S2
  | _ => .bad
theorem iter_enum {K : PySem.W.Frag} {F : Hp} {a : Addr} {xs : List P} {vs : List V} (h : SqL K F a vs) (r : RepL K F xs vs) : IterOk K F (enumP 0 xs) (Ite K a) := by
  intro io' F' S' H' i hF st
  have hs : SqL K H' a vs := sql_mono (hF.trans st.sub) h
  rw [enumP_get]
  refine ⟨fun x hx => ?_, fun hx => ?_⟩
  · cases q : xs[i]? with
    | none => rw [q] at hx; cases hx
    | some y =>
      rw [q] at hx
      have hx : P.tup [.int ((0 + i : Nat) : Int), y] = x := Option.some.inj hx
      subst hx
      obtain ⟨v, hv, hr⟩ := r.get q
      refine ⟨⟨vs, v, hs, hv⟩, fun w H'' yl => ?_⟩
      obtain ⟨T, u, rfl, hT, e, hu⟩ := yl
      subst e
      have := hu vs hs
      rw [hv] at this
      cases this
      obtain ⟨s3, n3⟩ := st.froze (o := .tup [.int (i : Nat), v]) hT
      refine ⟨_, n3, s3, T, _, rfl, SqT.of upd_same, .cons ?_ (.cons (Rep.mono n3.fr (Rep.mono hF hr)) .nil)⟩
      show V.int _ = V.int _
      rw [Nat.zero_add]
  · refine ⟨vs, hs, ?_⟩
    rw [r.length]
    cases q : xs[i]? with
    | none => exact List.getElem?_eq_none_iff.mp q
    | some y => rw [q] at hx; cases hx
theorem oi_enum {elts : List Expr} {kk : Nat} (hm : X.mg "enumerate" = none) (h : OE X W a ma) (hg : Gl X "enumerate" := by rfl) (hs : starEach [a] X.env = (false, eval a X.env) :: starEach [] X.env := by rfl) : OI X W (.Tuple elts kk tpos) (.Call (.Name "enumerate" p) [a] [] pos) (itEnum ma) := by
  obtain ⟨t, q, h⟩ := h
  refine ⟨_, pi_enum hg hm (pa_cons q pa_nil hs) hs, fun ρ S io F σ H R st en hw => ?_⟩
  refine h ρ S io F σ H _ st en (RG.bind hw fun d S1 io1 F1 H1 v e1 n1 s1 r1 h1 => ?_)
  obtain ⟨x, S2, F2, n2, s2, rp, hz, h2⟩ := s1.frz r1 h1
  cases x with
  | lst xs =>
    obtain ⟨a, vs, rfl, ha, ra⟩ := rp
    exact ⟨a, vs, rfl, SqL.of (s2.sub _ _ ha), h2 io1 F2 H1 _ Nxt.refl s2 (iter_enum (SqL.of ha) ra)⟩
  | _ => exact h2.elim
def zipP : List P → List P → List P
  | x :: xs, y :: ys => .tup [x, y] :: zipP xs ys
  | _, _ => []
theorem zipP_get : ∀ (xs ys : List P) (i : Nat), (zipP xs ys)[i]? = (xs[i]?).bind fun x => (ys[i]?).map fun y => P.tup [x, y]
  | [], ys, i => by simp [zipP]
  | x :: xs, [], i => by cases h : (x :: xs)[i]? <;> simp [zipP]
  | x :: xs, y :: ys, 0 => by simp [zipP]
  | x :: xs, y :: ys, i + 1 => by
    show (zipP xs ys)[i]? = _
    rw [zipP_get xs ys i]
    simp only [List.getElem?_cons_succ]
def itZip (m m2 : ME) : MI := fun ρ S => (m ρ S).bind fun d S1 => (m2 ρ S1).bind fun d2 S2 => match d, d2 with
  | .p (.lst xs), .p (.lst ys) => .ok (zipP xs ys) S2
  | _, _ => .bad
theorem iter_zip {K : PySem.W.Frag} {F : Hp} {a b : Addr} {xs ys : List P} {vs ws : List V} (h : SqL K F a vs) (r : RepL K F xs vs) (h' : SqL K F b ws) (r' : RepL K F ys ws) : IterOk K F (zipP xs ys) (Itz K a b) := by
  intro io' F' S' H' i hF st
  have hs : SqL K H' a vs := sql_mono (hF.trans st.sub) h
  have hs' : SqL K H' b ws := sql_mono (hF.trans st.sub) h'
  rw [zipP_get]
  refine ⟨fun x hx => ?_, fun hx => ?_⟩
  · cases q : xs[i]? with
    | none => rw [q] at hx; cases hx
    | some y =>
      cases q' : ys[i]? with
      | none => rw [q, q'] at hx; cases hx
      | some y' =>
        rw [q, q'] at hx
        have hx : P.tup [y, y'] = x := Option.some.inj hx
        subst hx
        obtain ⟨v, hv, hr⟩ := r.get q
        obtain ⟨v', hv', hr'⟩ := r'.get q'
        refine ⟨⟨vs, ws, v, v', hs, hs', hv, hv'⟩, fun w H'' yl => ?_⟩
        obtain ⟨T, u, u', rfl, hT, e, hu, hu'⟩ := yl
        subst e
        have := hu vs hs
        rw [hv] at this
        cases this
        have := hu' ws hs'
        rw [hv'] at this
        cases this
        obtain ⟨s3, n3⟩ := st.froze (o := .tup [v, v']) hT
        exact ⟨_, n3, s3, T, _, rfl, SqT.of upd_same, .cons (Rep.mono n3.fr (Rep.mono hF hr)) (.cons (Rep.mono n3.fr (Rep.mono hF hr')) .nil)⟩
  · refine ⟨vs, ws, hs, hs', ?_⟩
    rw [r.length, r'.length]
    cases q : xs[i]? with
    | none => exact .inl (List.getElem?_eq_none_iff.mp q)
    | some y =>
      cases q' : ys[i]? with
      | none => exact .inr (List.getElem?_eq_none_iff.mp q')
      | some y' => rw [q, q'] at hx; cases hx
theorem oi_zip {elts : List Expr} {kk : Nat} (hm : X.mg "zip" = none) (h : OE X W a ma) (h' : OE X W b mb) (hg : Gl X "zip" := by rfl) (hs : starEach [a, b] X.env = (false, eval a X.env) :: starEach [b] X.env := by rfl) (hs2 : starEach [b] X.env = (false, eval b X.env) :: starEach [] X.env := by rfl)
    (hpl : (backTo pos (starEach [b] X.env)).any (·.1) = false := by rfl) : OI X W (.Tuple elts kk tpos) (.Call (.Name "zip" p) [a, b] [] pos) (itZip ma mb) := by
  obtain ⟨t, q, h⟩ := h
  obtain ⟨t2, q2, h'⟩ := h'
  refine ⟨_, pi_zip hg hm (pa_cons q (pa_cons q2 pa_nil hs2) hs) hs hpl, fun ρ S io F σ H R st en hw => ?_⟩
  refine h ρ S io F σ H _ st en (RG.bind hw fun d S1 io1 F1 H1 v e1 n1 s1 r1 h1 => ?_)
  refine h' ρ S1 io1 F1 σ H1 _ s1 (en.nxt n1) (RG.bind h1 fun d2 S2 io2 F2 H2 v2 e2 n2 s2 r2 h2 => ?_)
  cases d with
  | c k => exact h2.elim
  | p x =>
    cases x with
    | lst xs =>
      obtain ⟨a, vs, rfl, ha, ra⟩ := r1
      cases d2 with
      | c k => exact h2.elim
      | p y =>
        cases y with
        | lst ys =>
          obtain ⟨b, ws, rfl, hb, rb⟩ := r2
          have ha2 := n2.fr _ _ ha
          exact ⟨a, b, vs, ws, rfl, SqL.of (s2.sub _ _ ha2), SqL.of (s2.sub _ _ hb), h2 io2 F2 H2 _ Nxt.refl s2 (iter_zip (SqL.of ha2) (RepL.mono n2.fr ra) (SqL.of hb) rb)⟩
        | _ => exact h2.elim
    | _ => exact h2.elim
end
end Mir

namespace Mir
open PySem L2
def sPass : MS := fun ρ S => .ok (.nx ρ) S
def RF.thn (r : RF) (b : MS) : RF := match r with
  | .ok (.nx ρ) S => b ρ S
  | .ok (.rt d) S => .ok (.rt d) S
  | .ok (.bk ρ) S => .ok (.bk ρ) S
  | .ok (.ct ρ) S => .ok (.ct ρ) S
  | .ok (.xc ρ c x) S => .ok (.xc ρ c x) S
  | .bad => .bad
def sSeq (a b : MS) : MS := fun ρ S => (a ρ S).thn b
def sExpr (e : ME) : MS := fun ρ S => (e ρ S).go ρ fun _ S1 => .ok (.nx ρ) S1
def sRet (e : ME) : MS := fun ρ S => (e ρ S).go ρ fun d S1 => .ok (.rt d) S1
def sRetN : MS := fun ρ S => .ok (.rt (.p .non)) S
def sIf (t : MT) (a b : MS) : MS := fun ρ S => (t ρ S).go ρ fun c S1 => match c with
  | true => a ρ S1
  | false => b ρ S1
def sAsg (e : ME) (g : MG) : MS := fun ρ S => (e ρ S).go ρ fun d S1 => ((g d ρ S1).nox).go ρ fun ρ1 S2 => .ok (.nx ρ1) S2
def sPar (i j : Nat) (a : MA) : MS := fun ρ S => (a ρ S).go ρ fun ds S1 => match ds with
  | [d, d2] => .ok (.nx ((ρ.set i (some d)).set j (some d2))) S1
  | _ => .bad
def forGo (g : MG) (b : MS) : List P → En → Sto → RF
  | [], ρ, S => .ok (.nx ρ) S
  | x :: xs, ρ, S => ((g (.p x) ρ S).nox).go ρ fun ρ1 S1 => match b ρ1 S1 with
    | .ok (.nx ρ2) S2 => forGo g b xs ρ2 S2
    | .ok (.ct ρ2) S2 => forGo g b xs ρ2 S2
    | .ok (.bk ρ2) S2 => .ok (.nx ρ2) S2
    | .ok (.rt d) S2 => .ok (.rt d) S2
    | .ok (.xc ρ2 c x) S2 => .ok (.xc ρ2 c x) S2
    | .bad => .bad
def sFor (it : MI) (g : MG) (b : MS) : MS := fun ρ S => (it ρ S).go ρ fun xs S1 => forGo g b xs ρ S1
def whGo (t : MT) (b : MS) : Nat → En → Sto → RF
  | 0, _, _ => .bad
  | n + 1, ρ, S => (t ρ S).go ρ fun c S1 => match c with
    | false => .ok (.nx ρ) S1
    | true => match b ρ S1 with
      | .ok (.nx ρ2) S2 => whGo t b n ρ2 S2
      | .ok (.ct ρ2) S2 => whGo t b n ρ2 S2
      | .ok (.bk ρ2) S2 => .ok (.nx ρ2) S2
      | .ok (.rt d) S2 => .ok (.rt d) S2
      | .ok (.xc ρ2 c x) S2 => .ok (.xc ρ2 c x) S2
      | .bad => .bad
def sWhile (n : Nat) (t : MT) (b : MS) : MS := fun ρ S => whGo t b n ρ S
section
variable {X : Cx} {W : WX} {st : Stmt} {rest : List Stmt} {a b c e tg iter : Expr} {ma mb : ME} {m m2 : MS} {pos : Pos} {mt : MT}
theorem oss_nil : OSs X W [] sPass := ⟨_, pss_nil, fun ρ S io F σ H D s en h => h io F H σ Nxt.refl s en⟩
theorem oss_cons (h1 : OS X W st m) (h2 : OSs X W rest m2) : OSs X W (st :: rest) (sSeq m m2) := by
  obtain ⟨t, p, h1⟩ := h1
  obtain ⟨u, q, h2⟩ := h2
  refine ⟨_, pss_cons p q, fun ρ S io F σ H D s en h => ?_⟩
  refine h1 ρ S io F σ H _ s en ?_
  have h : RS X.K ((m ρ S).thn m2) io F H D W := h
  cases r : m ρ S with
  | bad => rw [r] at h; exact h
  | ok f S1 =>
    rw [r] at h
    cases f with
    | nx ρ1 => exact fun io1 F1 H1 σ1 n1 s1 en1 => h2 ρ1 S1 io1 F1 σ1 H1 D s1 en1 (RS.step n1 h)
    | rt d => exact h
    | bk ρ1 => exact h
    | ct ρ1 => exact h
    | xc ρ1 c x => exact h
theorem oss_one (h1 : OS X W st m) : OSs X W [st] m := by
  obtain ⟨t, p, h1⟩ := h1
  exact ⟨_, pss_one p, h1⟩
theorem os_expr (he : OE X W e ma) (hs : swapsWith e none pos.line X.env = pure false := by rfl) : OS X W (.Expr e pos) (sExpr ma) := by
  obtain ⟨t, p, he⟩ := he
  refine ⟨_, ps_expr p hs, fun ρ S io F σ H D s en h => ?_⟩
  exact he ρ S io F σ H _ s en (RS.go en h fun d S1 io1 F1 H1 v e1 n1 s1 r1 h1 => h1 io1 F1 H1 σ Nxt.refl s1 (en.nxt n1))
theorem os_ret (he : OE X W e ma) : OS X W (.Return (some e) pos) (sRet ma) := by
  obtain ⟨t, p, he⟩ := he
  refine ⟨_, ps_ret p, fun ρ S io F σ H D s en h => ?_⟩
  exact he ρ S io F σ H _ s en (RS.go en h fun d S1 io1 F1 H1 v e1 n1 s1 r1 h1 => h1 io1 F1 H1 v Nxt.refl s1 r1)
theorem os_if {as bs : List Stmt} (hc : OT X W c mt) (ha : OSs X W as m) (hb : OSs X W bs m2) : OS X W (.If c as bs pos) (sIf mt m m2) := by
  obtain ⟨t, p, hc⟩ := hc
  obtain ⟨u, q, ha⟩ := ha
  obtain ⟨u2, q2, hb⟩ := hb
  refine ⟨_, ps_if p q q2, fun ρ S io F σ H D s en h => ?_⟩
  refine hc ρ S io F σ H _ s en (RS.go en h fun d S1 io1 F1 H1 v e1 n1 s1 r1 h1 => ?_)
  cases r1
  cases d with
  | true => exact iteT (ha ρ S1 io1 F1 σ H1 D s1 (en.nxt n1) h1)
  | false => exact iteF (hb ρ S1 io1 F1 σ H1 D s1 (en.nxt n1) h1)
theorem RS.nox {K : PySem.W.Frag} {io : Io} {F H : Hp} {A B : Type} {R : Io → Hp → A → B → Prop} {Q1 : B → Hp → Prop} {D : Ends} {ρ : En} {r : Res A} {f : A → Sto → RF} {E : XK} (h : RS K (r.nox.go ρ f) io F H D W)
    (k : ∀ a S1 io1 F1 H1 v, r = .ok a S1 → Nxt io F H io1 F1 H1 → Sta K io1 F1 S1 H1 → R io1 F1 a v → RS K (f a S1) io1 F1 H1 D W → Q1 v H1) : RG K R r io F H Q1 E := by
  cases r with
  | ok a S => exact fun io' F' H' v n s rp => k a S io' F' H' v rfl n s rp (RS.step n h)
  | exc c x S => exact h.elim
  | bad => exact h
theorem os_asg {js : List Nat} {g : MG} (he : OE X W e ma) (hg : OG X (fun _ _ _ _ => False) tg js g) (hs : swapsWithSole [tg] e pos.line X.env = pure false := by rfl) (hw : swappedStores [tg] e X.env = pure none := by rfl)
    (h1 : (assignEach [tg] X.env).map (·.2) = [assign tg X.env] := by rfl) : OS X W (.Assign [tg] e pos) (sAsg ma g) := by
  obtain ⟨t, p, he⟩ := he
  obtain ⟨u, q, hg⟩ := hg
  refine ⟨_, ps_asg p q hs hw h1, fun ρ S io F σ H D s en h => ?_⟩
  refine he ρ S io F σ H _ s en (RS.go en h fun d S1 io1 F1 H1 v e1 n1 s1 r1 h1 => ?_)
  exact hg d v ρ S1 io1 F1 σ H1 _ s1 (en.nxt n1) r1 (RS.nox h1 fun ρ1 S2 io2 F2 H2 σ2 e2 n2 s2 r2 h2 => h2 io2 F2 H2 σ2 Nxt.refl s2 r2.1)
theorem os_set {i : Nat} {x : Str} {pos' : Pos} (hN : X.N.Nodup) (he : OE X W e ma) (hi : X.N[i]? = some x := by rfl) (hx : Loc X.env.scope x := by first | exact Or.inl rfl | exact Or.inr rfl) (hs : swapsWith e (some (.Name x pos')) pos.line X.env = pure false := by rfl)
    (hf : X.fn x = true ∨ X.env.scope.names.lookup x = some .local := by first | exact .inl rfl | exact .inr rfl) : OS X W (.Assign [.Name x pos'] e pos) (sAsg ma (gNm i)) := by
  obtain ⟨t, p, he⟩ := he
  refine ⟨_, ps_set hN hi hx p hs hf, fun ρ S io F σ H D s en h => ?_⟩
  refine he ρ S io F σ H _ s en (RS.go en h fun d S1 io1 F1 H1 v e1 n1 s1 r1 h1 => ?_)
  exact h1 io1 F1 H1 (σ.set i (some v)) Nxt.refl s1 ((en.nxt n1).set r1 i)
theorem os_par {i j : Nat} {x y : Str} {mas : MA} {px py pt : Pos} {kt k2 pt2} (hc : X.calm = true) (hN : X.N.Nodup) (ha : OA X W [a, b] mas) (hi : X.N[i]? = some x := by rfl) (hj : X.N[j]? = some y := by rfl) (hij : i ≠ j := by decide)
    (hx : X.env.scope.names.lookup x = some .local := by rfl) (hy : X.env.scope.names.lookup y = some .local := by rfl)
    (hw : swappedStores [.Tuple [.Name x px, .Name y py] kt pt] (.Tuple [a, b] k2 pt2) X.env = pure (some [x, y]) := by rfl)
    (hs : swapsWithSole [.Tuple [.Name x px, .Name y py] kt pt] (.Tuple [a, b] k2 pt2) pos.line X.env = pure false := by rfl) :
    OS X W (.Assign [.Tuple [.Name x px, .Name y py] kt pt] (.Tuple [a, b] k2 pt2) pos) (sPar i j mas) := by
  obtain ⟨t, p, ha⟩ := ha
  refine ⟨_, ps_par hc hN hi hj hij hx hy p hw hs, fun ρ S io F σ H D s en h => ?_⟩
  refine ha ρ S io F σ H _ s en (RS.go en h fun ds S1 io1 F1 H1 vs e1 n1 s1 r1 h1 => ?_)
  match ds, r1, h1 with
  | [d, d2], ⟨v, w, e1, ra, ⟨v2, w2, e2, rb, e3⟩⟩, h1 =>
    have e3 : w2 = [] := e3
    subst e3; subst e2; subst e1
    exact ⟨v, v2, rfl, h1 io1 F1 H1 _ Nxt.refl s1 (((en.nxt n1).set ra i).set rb j)⟩
  | [], _, h1 => exact h1.elim
  | [_], _, h1 => exact h1.elim
  | _ :: _ :: _ :: _, _, h1 => exact h1.elim
theorem os_for {js : List Nat} {it : MI} {g : MG} {body : List Stmt} (hp : PassesOwn (model X.prog X.w) X.A X.env X.xe) (hc : X.calm = true) (hi : OI X W tg iter it) (hg : OG X (fun _ _ _ _ => False) tg js g) (hb : OSs X W body m)
    (hs : ∀ x, foldedSetIterable iter X.env x = pure x := by intro _; rfl) : OS X W (.For tg iter body [] pos) (sFor it g m) := by
  obtain ⟨t, p, hi⟩ := hi
  obtain ⟨u, q, hg⟩ := hg
  obtain ⟨u2, q2, hb⟩ := hb
  refine ⟨_, ps_for hp hc p q q2 hs, fun ρ S io F σ H D s en h => ?_⟩
  refine hi ρ S io F σ H _ s en (RS.go en h fun xs S1 io1 F1 H1 J e1 n1 s1 ij h1 => ?_)
  refine ⟨fun i k σ' H' => k = xs.length - i ∧ i ≤ xs.length ∧ ∃ ρ' S' io' F', Same F1 F' ∧ Sta X.K io' F' S' H' ∧ Mir.Env X.K io' F' ρ' σ' ∧ RS X.K (forGo g m (xs.drop i) ρ' S') io' F' H' D W,
    ⟨xs.length, by simp, Nat.zero_le _, ρ, S1, io1, F1, Same.refl _, s1, en.nxt n1, h1⟩, ?_⟩
  rintro i k σ' H' ⟨rfl, hle, ρ', S', io', F', hF, s', en', h'⟩
  obtain ⟨go, stop⟩ := ij io' F' S' H' i hF s'
  cases hx : xs[i]? with
  | none =>
    have hd : xs.drop i = [] := List.drop_eq_nil_of_le (List.getElem?_eq_none_iff.mp hx)
    rw [hd] at h'
    exact .inl ⟨stop hx, h' io' F' H' σ' Nxt.refl s' en'⟩
  | some x =>
    have hlt : i < xs.length := (List.getElem?_eq_some_iff.mp hx).1
    have hd : xs.drop i = x :: xs.drop (i + 1) := by
      rw [List.drop_eq_getElem_cons hlt]
      congr 1
      exact (List.getElem?_eq_some_iff.mp hx).2
    rw [hd] at h'
    obtain ⟨g1, g2⟩ := go x hx
    refine .inr ⟨g1, fun σ2 H2 => ∃ ρ2 S2 io2 F2, Same F1 F2 ∧ Sta X.K io2 F2 S2 H2 ∧ Mir.Env X.K io2 F2 ρ2 σ2 ∧ RS X.K (forGo g m (xs.drop (i + 1)) ρ2 S2) io2 F2 H2 D W, fun σ2 H2 hn => ⟨xs.length - (i + 1), by omega, rfl, hlt, hn⟩, fun v H'' hy => ?_⟩
    obtain ⟨F'', n2, s2, rv⟩ := g2 v H'' hy
    have h' : RS X.K (((g (.p x) ρ' S').nox).go ρ' fun ρ1 S1 => match m ρ1 S1 with
      | .ok (.nx ρ2) S2 => forGo g m (xs.drop (i + 1)) ρ2 S2
      | .ok (.ct ρ2) S2 => forGo g m (xs.drop (i + 1)) ρ2 S2
      | .ok (.bk ρ2) S2 => .ok (.nx ρ2) S2
      | .ok (.rt d) S2 => .ok (.rt d) S2
      | .ok (.xc ρ2 c x) S2 => .ok (.xc ρ2 c x) S2
      | .bad => .bad) io' F' H' D W := h'
    refine hg (.p x) v ρ' S' io' F'' σ' H'' _ s2 (en'.nxt n2) rv (RS.nox (RS.step n2 h') fun ρ3 S3 io3 F3 H3 σ3 e3 n3 s3 r3 h3 => ?_)
    refine hb ρ3 S3 io3 F3 σ3 H3 _ s3 r3.1 ?_
    have hF3 : Same F1 F3 := (hF.trans n2.fr).trans n3.fr
    cases r : m ρ3 S3 with
    | bad => rw [r] at h3; exact h3
    | ok f S4 =>
      rw [r] at h3
      cases f with
      | nx ρ4 => exact fun io4 F4 H4 σ4 n4 s4 en4 => ⟨ρ4, S4, io4, F4, hF3.trans n4.fr, s4, en4, RS.step n4 h3⟩
      | ct ρ4 => exact fun io4 F4 H4 σ4 n4 s4 en4 => ⟨ρ4, S4, io4, F4, hF3.trans n4.fr, s4, en4, RS.step n4 h3⟩
      | bk ρ4 => exact h3
      | rt d => exact h3
      | xc ρ4 c x => exact h3
theorem os_while {body : List Stmt} (n : Nat) (hp : PassesOwn (model X.prog X.w) X.A X.env X.xe) (hc : OT X W c mt) (hb : OSs X W body m) : OS X W (.While c body [] pos) (sWhile n mt m) := by
  obtain ⟨t, p, hc⟩ := hc
  obtain ⟨u, q, hb⟩ := hb
  refine ⟨_, ps_while hp p q, fun ρ S io F σ H D s en h => ?_⟩
  refine ⟨fun k σ' H' => ∃ ρ' S' io' F', Sta X.K io' F' S' H' ∧ Mir.Env X.K io' F' ρ' σ' ∧ RS X.K (whGo mt m k ρ' S') io' F' H' D W, ⟨n, ρ, S, io, F, s, en, h⟩, ?_⟩
  rintro k σ' H' ⟨ρ', S', io', F', s', en', h'⟩
  cases k with
  | zero => exact h'.elim
  | succ k =>
    refine hc ρ' S' io' F' σ' H' _ s' en' (RS.go en' h' fun d S1 io1 F1 H1 v e1 n1 s1 r1 h1 => ?_)
    cases r1
    cases d with
    | false => exact iteF (h1 io1 F1 H1 σ' Nxt.refl s1 (en'.nxt n1))
    | true =>
      refine iteT ⟨fun σ2 H2 => ∃ ρ2 S2 io2 F2, Sta X.K io2 F2 S2 H2 ∧ Mir.Env X.K io2 F2 ρ2 σ2 ∧ RS X.K (whGo mt m k ρ2 S2) io2 F2 H2 D W, fun σ2 H2 hn => ⟨k, Nat.lt_succ_self k, hn⟩, ?_⟩
      refine hb ρ' S1 io1 F1 σ' H1 _ s1 (en'.nxt n1) ?_
      dsimp only at h1
      cases r : m ρ' S1 with
      | bad => rw [r] at h1; exact h1
      | ok f S4 =>
        rw [r] at h1
        cases f with
        | nx ρ4 => exact fun io4 F4 H4 σ4 n4 s4 en4 => ⟨ρ4, S4, io4, F4, s4, en4, RS.step n4 h1⟩
        | ct ρ4 => exact fun io4 F4 H4 σ4 n4 s4 en4 => ⟨ρ4, S4, io4, F4, s4, en4, RS.step n4 h1⟩
        | bk ρ4 => exact h1
        | rt d => exact h1
        | xc ρ4 c x => exact h1
end
def tsYes : MT := fun _ S => .ok true S
def lcGo (g : MG) (t : MT) (e : ME) (ρ : En) : List P → Sto → Res (List P)
  | [], S => .ok [] S
  | x :: xs, S => (g (.p x) ρ S).nox.bind fun ρ1 S1 => (t ρ1 S1).nox.bind fun b S2 => match b with
    | true => (e ρ1 S2).nox.bind fun d S3 => (frz d S3).bind fun y S4 => (lcGo g t e ρ xs S4).bind fun ys S5 => .ok (y :: ys) S5
    | false => lcGo g t e ρ xs S2
def eLc (it : MI) (vs : List Nat) (g : MG) (t : MT) (e : ME) : ME := fun ρ S => (it ρ S).bind fun xs S1 => if xs.length ≤ 100000 then (lcGo g t e (wipeE ρ vs) xs S1).bind fun ys S2 => .ok (.p (.lst ys)) S2 else .bad
def eLcC (it : MI) (vs : List Nat) (g : MG) (t : MT) (e : ME) : ME := fun ρ S => (it ρ S).bind fun xs S1 => if xs.length ≤ 100000 then (lcGo g t e (wipeE ρ vs) xs S1).bind fun ys S2 => .ok (.c S2.length) (S2 ++ [.lst ys]) else .bad
abbrev W0 : WX := fun _ _ _ _ => False
theorem pts_of_nil {X : Cx} : PTs X [] (tT X.K W0 tsYes) := ⟨fun pins s σ H Q I ⟨ρ, S, io, F, st, en, q⟩ => pts_nil.run pins s σ H Q I (RG.val (R := RepB) (d := true) (v := true) st rfl q)⟩
theorem pts_of_one {X : Cx} {c : Expr} {m : MT} (h : OT X W0 c m) : PTs X [c] (tT X.K W0 m) := pts_one h.pt
def OTs (X : Cx) (es : List Expr) (m : MT) : Prop := PTs X es (tT X.K W0 m)
theorem ots_nil {X : Cx} : OTs X [] tsYes := pts_of_nil
theorem ots_one {X : Cx} {c : Expr} {m : MT} (h : OT X W0 c m) : OTs X [c] m := pts_of_one h
section
variable {K : PySem.W.Frag} {Q : VK} {E : XK}
theorem lc_turns {wi : TI} {xs : List P} {J : It} {js vs : List Nat} {g : MG} {t : MT} {e : ME} {ρ : En} {σ : St} {S1 : Sto} {io1 : Io} {F1 H1 : Hp} {fin : List P → Sto → Res Vl} (s1 : Sta K io1 F1 S1 H1) (en : Mir.Env K io1 F1 ρ σ) (hj : ∀ j ∈ js, j ∈ vs)
    (ij : IterOk K F1 xs J) (hz : xs.length ≤ 100000) (h : RG K (RepA K) ((lcGo g t e (wipeE ρ vs) xs S1).bind fin) io1 F1 H1 Q E)
    (D : Addr) (hD : H1 D = none)
    (done : ∀ ys S2 io2 F2 H2 acc, Nxt io1 F1 H1 io2 F2 H2 → Sta K io2 F2 S2 H2 → (∀ k : Nat, io2[k]? ≠ some (some D)) → F2 D = none → H2 D = some (.lst acc) → RepL K F2 ys acc → RG K (RepA K) (fin ys S2) io1 F1 H1 Q E → Q (.ref D) H2) :
    ∃ W : Nat → Nat → Hp → Prop, (∃ m, W 0 m (upd H1 D (.lst []))) ∧ ∀ i m H, W i m H →
      (J.stop i H ∧ Q (.ref D) H) ∨ (J.go i H ∧ ∃ Nx : Hp → Prop, (∀ H', Nx H' → ∃ m', m' < m ∧ W (i + 1) m' H') ∧ ∀ x H', J.yld i H x H' → tG K W0 js g x (L2.wipe σ vs) H' fun σ2 H2 => L2.wipe σ2 vs = L2.wipe σ vs ∧ tT K W0 t σ2 H2 fun b H3 =>
        if b = true then tE K W0 e σ2 H3 fun y H4 => ∃ acc, H4 D = some (.lst acc) ∧ acc.length < sizeLine ∧ Nx (upd H4 D (.lst (acc ++ [y]))) else Nx H3) := by
  let Inv' : Nat → Hp → Prop := fun i H => ∃ S io F acc ys, Nxt io1 F1 H1 io F H ∧ Sta K io F S H ∧ (∀ k : Nat, io[k]? ≠ some (some D)) ∧ F D = none ∧ H D = some (.lst acc) ∧ RepL K F ys acc ∧ ys.length ≤ i ∧ RG K (RepA K) ((lcGo g t e (wipeE ρ vs) (xs.drop i) S).bind fun zs S2 => fin (ys ++ zs) S2) io1 F1 H1 Q E
  refine ⟨fun i m H => m = xs.length - i ∧ i ≤ xs.length ∧ Inv' i H, ⟨xs.length, by simp, Nat.zero_le _, S1, io1, F1, [], [], ?_, s1.side (s1.notIn hD) (Same.free s1.sub hD), s1.notIn hD, Same.free s1.sub hD, upd_same, .nil, Nat.le_refl _, ?_⟩, ?_⟩
  · refine ⟨fun _ _ z => z, fun _ _ z => z, fun a o z _ => ?_, fun _ _ z => .inl z, fun a z => ?_, fun _ z => .inl z⟩
    · rw [upd_ne (ne_of_none z hD)]; exact z
    · by_cases q : a = D
      · subst q; exact hD
      · rw [upd_ne q] at z; exact z
  · exact h
  rintro i m H ⟨rfl, hle, S, io, F, acc, ys, nx, st, nD, fD, hH, ra, hl, hh⟩
  obtain ⟨go, stop⟩ := ij io F S H i nx.fr st
  cases hx : xs[i]? with
  | none =>
    have hd : xs.drop i = [] := List.drop_eq_nil_of_le (List.getElem?_eq_none_iff.mp hx)
    rw [hd] at hh
    have hh : RG K (RepA K) (fin (ys ++ []) S) io1 F1 H1 Q E := hh
    rw [List.append_nil] at hh
    exact .inl ⟨stop hx, done ys S io F H acc nx st nD fD hH ra hh⟩
  | some x =>
    have hlt : i < xs.length := (List.getElem?_eq_some_iff.mp hx).1
    have hd : xs.drop i = x :: xs.drop (i + 1) := by
      rw [List.drop_eq_getElem_cons hlt]
      congr 1
      exact (List.getElem?_eq_some_iff.mp hx).2
    rw [hd] at hh
    obtain ⟨g1, g2⟩ := go x hx
    refine .inr ⟨g1, Inv' (i + 1), fun H' q => ⟨xs.length - (i + 1), by omega, rfl, hlt, q⟩, fun v H'' hy => ?_⟩
    obtain ⟨F'', n2, s2, rv⟩ := g2 v H'' hy
    have keepD : ∀ {io' : Io} {F' : Hp} {H' : Hp}, Nxt io F H io' F' H' → (∀ k : Nat, io'[k]? ≠ some (some D)) ∧ F' D = none ∧ H' D = some (.lst acc) := fun {io' F' H'} n => by
      refine ⟨fun k e => ?_, ?_, n.out D _ hH nD⟩
      · rcases n.new k D e with z | z
        · exact nD k z
        · rw [hH] at z; cases z
      · cases q : F' D with
        | none => rfl
        | some o =>
          rcases n.nf D (by rw [q]; exact fun z => nomatch z) with z | z | ⟨k, z⟩
          · exact absurd fD z
          · rw [hH] at z; cases z
          · exact absurd z (nD k)
    have hh : RG K (RepA K) (((g (.p x) (wipeE ρ vs) S).nox.bind fun ρ1 S1 => (t ρ1 S1).nox.bind fun b S2 => match b with
      | true => (e ρ1 S2).nox.bind fun d S3 => (frz d S3).bind fun y S4 => (lcGo g t e (wipeE ρ vs) (xs.drop (i + 1)) S4).bind fun ys S5 => .ok (y :: ys) S5
      | false => lcGo g t e (wipeE ρ vs) (xs.drop (i + 1)) S2).bind fun zs S2 => fin (ys ++ zs) S2) io1 F1 H1 Q E := hh
    cases q1 : g (.p x) (wipeE ρ vs) S with
    | bad => rw [q1] at hh; exact hh.elim
    | exc c x S => rw [q1] at hh; exact hh.elim
    | ok ρ1 Sa =>
      rw [q1] at hh
      refine ⟨.p x, wipeE ρ vs, S, io, F'', s2, ((en.nxt nx).nxt n2).wipe vs, rv, ?_⟩
      rw [q1]
      intro io3 F3 H3 σ3 n3 s3 r3
      refine ⟨?_, ?_⟩
      · rw [wipe_agree r3.2 hj]
        have key : ∀ (τ : St) (vs : List Nat), L2.wipe (L2.wipe τ vs) vs = L2.wipe τ vs := by
          intro τ vs
          apply List.ext_getElem?
          intro j
          have k2 : ∀ (τ : St) (vs : List Nat) (j : Nat), (L2.wipe τ vs)[j]? = if j ∈ vs then (τ[j]?).map (fun _ => none) else τ[j]? := wipe_get
          rw [k2, k2]
          by_cases hj : j ∈ vs
          · rw [if_pos hj, if_pos hj]
            cases τ[j]? <;> rfl
          · rw [if_neg hj, if_neg hj]
        exact key σ vs
      have hh : RG K (RepA K) (((t ρ1 Sa).nox.bind fun b S2 => match b with
        | true => (e ρ1 S2).nox.bind fun d S3 => (frz d S3).bind fun y S4 => (lcGo g t e (wipeE ρ vs) (xs.drop (i + 1)) S4).bind fun ys S5 => .ok (y :: ys) S5
        | false => lcGo g t e (wipeE ρ vs) (xs.drop (i + 1)) S2).bind fun zs S2 => fin (ys ++ zs) S2) io1 F1 H1 Q E := hh
      cases q2 : t ρ1 Sa with
      | bad => rw [q2] at hh; exact hh.elim
      | exc c x S => rw [q2] at hh; exact hh.elim
      | ok b Sb =>
        rw [q2] at hh
        refine ⟨ρ1, Sa, io3, F3, s3, r3.1, ?_⟩
        rw [q2]
        intro io4 F4 H4 b' n4 s4 r4
        cases r4
        cases b with
        | false =>
          refine iteF ?_
          obtain ⟨d1, d2, d3⟩ := keepD ((n2.trans n3).trans n4)
          exact ⟨Sb, io4, F4, acc, ys, nx.trans ((n2.trans n3).trans n4), s4, d1, d2, d3, RepL.mono ((n2.trans n3).trans n4).fr ra, Nat.le_succ_of_le hl, hh⟩
        | true =>
          refine iteT ?_
          have hh : RG K (RepA K) (((e ρ1 Sb).nox.bind fun d S3 => (frz d S3).bind fun y S4 => (lcGo g t e (wipeE ρ vs) (xs.drop (i + 1)) S4).bind fun ys S5 => .ok (y :: ys) S5).bind fun zs S2 => fin (ys ++ zs) S2) io1 F1 H1 Q E := hh
          cases q3 : e ρ1 Sb with
          | bad => rw [q3] at hh; exact hh.elim
          | exc c x S => rw [q3] at hh; exact hh.elim
          | ok d Sc =>
            rw [q3] at hh
            refine ⟨ρ1, Sb, io4, F4, s4, r3.1.nxt n4, ?_⟩
            rw [q3]
            intro io5 F5 H5 w n5 s5 r5
            have hh : RG K (RepA K) (((frz d Sc).bind fun y S4 => (lcGo g t e (wipeE ρ vs) (xs.drop (i + 1)) S4).bind fun ys S5 => .ok (y :: ys) S5).bind fun zs S2 => fin (ys ++ zs) S2) io1 F1 H1 Q E := hh
            have n15 := ((n2.trans n3).trans n4).trans n5
            cases q4 : frz d Sc with
            | bad => rw [q4] at hh; exact hh.elim
            | exc c x S =>
              exact absurd q4 (frz_nox _ _ _ _ _)
            | ok y Sd =>
              rw [q4] at hh
              obtain ⟨y', Sd', F6, n6, s6, rp, hz6, _⟩ := s5.frz (C := Vl) (D := V) (R' := RepA K) (g := fun _ S => .ok (.p .non) S) (Q := fun _ _ => True) (E := fun _ _ _ => True) r5 (by rw [q4]; exact fun _ _ _ _ _ _ _ => trivial)
              rw [q4] at hz6; cases hz6
              obtain ⟨d1, d2, d3⟩ := keepD (n15.trans n6)
              have hlen : acc.length ≤ i := by rw [ra.length]; exact hl
              refine ⟨acc, d3, sz5l (by omega), ?_⟩
              have nx' := nx.trans (n15.trans n6)
              refine ⟨Sd, io5, F6, acc ++ [w], ys ++ [y], ?_, s6.side d1 d2, d1, d2, upd_same, (RepL.mono (n15.trans n6).fr ra).append (.cons rp .nil), by rw [List.length_append]; exact Nat.succ_le_succ hl, ?_⟩
              · refine ⟨nx'.han, nx'.fr, fun a o z zn => ?_, nx'.new, fun a z => ?_, nx'.nf⟩
                · rw [upd_ne (ne_of_none z hD)]; exact nx'.out a o z zn
                · by_cases q : a = D
                  · subst q; exact hD
                  · rw [upd_ne q] at z; exact nx'.stay a z
              · have hh : RG K (RepA K) (((lcGo g t e (wipeE ρ vs) (xs.drop (i + 1)) Sd).bind fun ys S5 => Res.ok (y :: ys) S5).bind fun zs S2 => fin (ys ++ zs) S2) io1 F1 H1 Q E := hh
                have q5 : (((lcGo g t e (wipeE ρ vs) (xs.drop (i + 1)) Sd).bind fun ys S5 => Res.ok (y :: ys) S5).bind fun zs S2 => fin (ys ++ zs) S2) = (lcGo g t e (wipeE ρ vs) (xs.drop (i + 1)) Sd).bind fun zs S2 => fin (ys ++ [y] ++ zs) S2 := by
                  cases lcGo g t e (wipeE ρ vs) (xs.drop (i + 1)) Sd with
                  | bad => rfl
                  | exc c x S => rfl
                  | ok zs S =>
                    show fin (ys ++ (y :: zs)) S = fin (ys ++ [y] ++ zs) S
                    rw [List.append_assoc]
                    rfl
                rw [q5] at hh
                exact hh
end
section
variable {X : Cx} {W : WX} {elt tg iter : Expr} {ifs : List Expr} {scope : Scope} {own : List (Str × Nat)} {pos : Pos} {it : MI} {js : List Nat} {g : MG} {t : MT} {e : ME}
theorem oe_lc (hc : X.calm = true) (hN : X.N.Nodup) (hi : OI X W tg iter it) (ok : BlkOk X.N X.env.scope scope own) (hj : ∀ j ∈ js, j ∈ own.map (·.2))
    (hg : ∀ (s : Shared) (H : Hp) (C : Addr) (cl : List (Str × Addr)) (fp : List Addr), OG (X.blk s H scope (compEnvC scope cl C X.env) fp) W0 tg js g) (ht : ∀ (s : Shared) (H : Hp) (C : Addr) (cl : List (Str × Addr)) (fp : List Addr), OTs (X.blk s H scope (compEnvC scope cl C X.env) fp) ifs t)
    (he : ∀ (s : Shared) (H : Hp) (C : Addr) (cl : List (Str × Addr)) (fp : List Addr), OE (X.blk s H scope (compEnvC scope cl C X.env) fp) W0 elt e) (hs : ∀ x, foldedSetIterable iter X.env x = pure x := by intro _; rfl) :
    OE X W (.ListComp elt [⟨tg, iter, ifs, 0⟩] scope pos) (eLc it (own.map (·.2)) g t e) := by
  obtain ⟨wi, p, hi⟩ := hi
  refine ⟨_, pe_lc (g := tG X.K W0 js g) (tt := tT X.K W0 t) (te := tE X.K W0 e) hc hN p ok (fun s H C cl fp => (hg s H C cl fp).pg) (fun s H C cl fp => ht s H C cl fp) (fun s H C cl fp => (he s H C cl fp).pe) hs, fun ρ S io F σ H Q st en h => ?_⟩
  refine hi ρ S io F σ H _ st en (RG.bind h fun xs S1 io1 F1 H1 J e1 n1 s1 ij h1 => ?_)
  intro D hD
  by_cases hz : xs.length ≤ 100000
  · rw [if_pos hz] at h1
    refine lc_turns (wi := wi) s1 (en.nxt n1) hj ij hz h1 D hD fun ys S2 io2 F2 H2 acc nx s2 nD fD hH ra h2 => ?_
    refine h2 io2 (upd F2 D (.lst acc)) H2 (.ref D) ?_ ?_ ⟨D, acc, rfl, upd_same, RepL.mono (upd_same_of fD) ra⟩
    · refine ⟨nx.han, nx.fr.trans (upd_same_of fD), nx.out, nx.new, nx.stay, fun a z => ?_⟩
      by_cases q : a = D
      · subst q; exact .inr (.inl hD)
      · rw [upd_ne q] at z; exact nx.nf a z
    · refine ⟨s2.len, s2.inj, fun a u z => ?_, s2.trk, fun k c z => ?_⟩
      · by_cases q : a = D
        · subst q; rw [upd_same] at z; cases z; exact hH
        · rw [upd_ne q] at z; exact s2.sub _ _ z
      · refine (s2.cel k c z).mono (fun _ _ z => z) (upd_same_of fD) (fun b hb hn => ?_) fun _ _ _ hu => hu
        rw [upd_ne (fun q => by subst q; exact nD k hb)]
        exact hn
  · rw [if_neg hz] at h1
    exact h1.elim
theorem os_setLc {i : Nat} {y : Str} {py spos : Pos} (hc : X.calm = true) (hN : X.N.Nodup) (hi : OI X W tg iter it) (ok : BlkOk X.N X.env.scope scope own) (hj : ∀ j ∈ js, j ∈ own.map (·.2))
    (hg : ∀ (s : Shared) (H : Hp) (C : Addr) (cl : List (Str × Addr)) (fp : List Addr), OG (X.blk s H scope (compEnvC scope cl C X.env) fp) W0 tg js g) (ht : ∀ (s : Shared) (H : Hp) (C : Addr) (cl : List (Str × Addr)) (fp : List Addr), OTs (X.blk s H scope (compEnvC scope cl C X.env) fp) ifs t)
    (he : ∀ (s : Shared) (H : Hp) (C : Addr) (cl : List (Str × Addr)) (fp : List Addr), OE (X.blk s H scope (compEnvC scope cl C X.env) fp) W0 elt e) (hy : X.N[i]? = some y := by rfl) (hyl : X.env.scope.names.lookup y = some .local := by rfl)
    (hsw : swapsWith (.ListComp elt [⟨tg, iter, ifs, 0⟩] scope pos) (some (.Name y py)) spos.line X.env = pure true := by exact sw_true rfl rfl rfl (by decide +kernel)) (hs : ∀ x, foldedSetIterable iter X.env x = pure x := by intro _; rfl) :
    OS X W (.Assign [.Name y py] (.ListComp elt [⟨tg, iter, ifs, 0⟩] scope pos) spos) (sAsg (eLc it (own.map (·.2)) g t e) (gNm i)) := by
  have := oe_lc (pos := pos) hc hN hi ok hj hg ht he hs
  obtain ⟨wi, p, hi⟩ := hi
  refine ⟨_, ps_setLc (g := tG X.K W0 js g) (tt := tT X.K W0 t) (te := tE X.K W0 e) hc hN hy hyl hsw p ok (fun s H C cl fp => (hg s H C cl fp).pg) (fun s H C cl fp => ht s H C cl fp) (fun s H C cl fp => (he s H C cl fp).pe) hs, fun ρ S io F σ H D' st en h => ?_⟩
  have h := RS.go (R := RepA X.K) (Q1 := fun v H1 => gName i v σ H1 D'.nx) en h fun d S1 io1 F1 H1 v e1 n1 s1 r1 h1 => h1 io1 F1 H1 (σ.set i (some v)) Nxt.refl s1 ((en.nxt n1).set r1 i)
  show tLc wi _ _ _ _ σ H (fun v H1 => gName i v σ H1 D'.nx)
  refine hi ρ S io F σ H _ st en (RG.bind h fun xs S1 io1 F1 H1 J e1 n1 s1 ij h1 => ?_)
  intro D hD
  by_cases hz : xs.length ≤ 100000
  · rw [if_pos hz] at h1
    refine lc_turns (wi := wi) s1 (en.nxt n1) hj ij hz h1 D hD fun ys S2 io2 F2 H2 acc nx s2 nD fD hH ra h2 => ?_
    refine h2 io2 (upd F2 D (.lst acc)) H2 (.ref D) ?_ ?_ ⟨D, acc, rfl, upd_same, RepL.mono (upd_same_of fD) ra⟩
    · refine ⟨nx.han, nx.fr.trans (upd_same_of fD), nx.out, nx.new, nx.stay, fun a z => ?_⟩
      by_cases q : a = D
      · subst q; exact .inr (.inl hD)
      · rw [upd_ne q] at z; exact nx.nf a z
    · refine ⟨s2.len, s2.inj, fun a u z => ?_, s2.trk, fun k c z => ?_⟩
      · by_cases q : a = D
        · subst q; rw [upd_same] at z; cases z; exact hH
        · rw [upd_ne q] at z; exact s2.sub _ _ z
      · refine (s2.cel k c z).mono (fun _ _ z => z) (upd_same_of fD) (fun b hb hn => ?_) fun _ _ _ hu => hu
        rw [upd_ne (fun q => by subst q; exact nD k hb)]
        exact hn
  · rw [if_neg hz] at h1
    exact h1.elim
end
end Mir

namespace Mir
open PySem L2
def isL (S : Sto) : Vl → Bool
  | .p (.lst _) => true
  | .c k => (match S[k]? with
    | some (.lst _) => true
    | some (.lsv _) => true
    | _ => false)
  | _ => false
section
variable {K : PySem.W.Frag} {io : Io} {F : Hp} {S : Sto} {H : Hp}
theorem Sta.isL (st : Sta K io F S H) {d : Vl} {v : V} (r : RepV K io F d v) (h : Mir.isL S d = true) : tyV K "list" v H := by
  cases d with
  | p x =>
    cases x with
    | lst xs =>
      obtain ⟨a, vs, rfl, h1, _⟩ := r
      exact .inl ⟨rfl, vs, SqL.of (st.sub _ _ h1)⟩
    | _ => cases h
  | c k =>
    obtain ⟨a, ha, rfl⟩ := r
    unfold Mir.isL at h
    dsimp only at h
    cases hk : S[k]? with
    | none => rw [hk] at h; cases h
    | some c =>
      rw [hk] at h
      cases c with
      | lst xs =>
        obtain ⟨b, vs, hb, _, hH, _⟩ := st.cel k _ hk
        rw [ha] at hb; cases hb
        exact .inl ⟨rfl, vs, SqL.of hH⟩
      | lsv xs =>
        obtain ⟨b, vs, hb, _, hH, _⟩ := st.cel k _ hk
        rw [ha] at hb; cases hb
        exact .inl ⟨rfl, vs, SqL.of hH⟩
      | _ => cases h
theorem Sta.wlst (st : Sta K io F S H) {k : Nat} {a : Addr} {c : Cell} {xs : List P} {vs : List V} (hk : S[k]? = some c) (hc : ∀ x, c ≠ .fz x) (hc2 : c ≠ .res) (hc3 : ∀ ys, c ≠ .tup ys) (ha : io[k]? = some (some a)) (r : RepL K F xs vs) (hc4 : ∀ ys, c ≠ .dvs ys ∧ c ≠ .tpz ys := by exact fun _ => ⟨(fun z => nomatch z), (fun z => nomatch z)⟩) :
    Sta K io F (S.set k (.lst xs)) (upd H a (.lst vs)) ∧ Nxt io F H io F (upd H a (.lst vs)) := by
  obtain ⟨b, o, hb, hF, hH⟩ := (st.cel k c hk).there hc hc2 hc3 hc4
  rw [ha] at hb; cases hb
  exact st.write ha hF ⟨a, vs, ha, hF, upd_same, r⟩
theorem Sta.wlsv (st : Sta K io F S H) {k : Nat} {a : Addr} {c : Cell} {xs : List Vl} {vs : List V} (hk : S[k]? = some c) (hc : ∀ x, c ≠ .fz x) (hc2 : c ≠ .res) (hc3 : ∀ ys, c ≠ .tup ys) (ha : io[k]? = some (some a)) (r : RepVs K io F xs vs) (hj : ∀ j, Vl.c j ∈ xs → j < k) (hc4 : ∀ ys, c ≠ .dvs ys ∧ c ≠ .tpz ys := by exact fun _ => ⟨(fun z => nomatch z), (fun z => nomatch z)⟩) :
    Sta K io F (S.set k (.lsv xs)) (upd H a (.lst vs)) ∧ Nxt io F H io F (upd H a (.lst vs)) := by
  obtain ⟨b, o, hb, hF, hH⟩ := (st.cel k c hk).there hc hc2 hc3 hc4
  rw [ha] at hb; cases hb
  exact st.write ha hF ⟨a, vs, ha, hF, upd_same, r, hj⟩
theorem RepVs.append : ∀ {xs ys : List Vl} {vs ws : List V}, RepVs K io F xs vs → RepVs K io F ys ws → RepVs K io F (xs ++ ys) (vs ++ ws)
  | [], _, _, _, h, t => by
    have h' : _ = _ := h
    subst h'
    exact t
  | x :: xs, ys, vs, ws, h, t => by
    obtain ⟨v, r, e1, h1, h2⟩ := h
    subst e1
    exact ⟨v, r ++ ws, rfl, h1, RepVs.append h2 t⟩
theorem RepVs.set : ∀ {xs : List Vl} {vs : List V} {x : Vl} {v : V} (i : Nat), RepVs K io F xs vs → RepV K io F x v → RepVs K io F (xs.set i x) (vs.set i v)
  | [], _, _, _, _, h, _ => by
    have h' : _ = _ := h
    subst h'
    exact rfl
  | y :: xs, vs, x, v, 0, h, hx => by
    obtain ⟨u, r, e1, h1, h2⟩ := h
    subst e1
    exact ⟨v, r, rfl, hx, h2⟩
  | y :: xs, vs, x, v, i + 1, h, hx => by
    obtain ⟨u, r, e1, h1, h2⟩ := h
    subst e1
    exact ⟨u, r.set i v, rfl, h1, RepVs.set i h2 hx⟩
theorem RepVs.one {x : Vl} {vs : List V} (h : RepVs K io F [x] vs) : ∃ v, vs = [v] ∧ RepV K io F x v := by
  obtain ⟨v, r, e, h1, h2⟩ := h
  have h2 : r = [] := h2
  subst h2
  exact ⟨v, e, h1⟩
end
abbrev FM := Vl → List Vl → Sto → Res Vl
def MutOk (K : PySem.W.Frag) (r : V → List V → Hp → VK → Prop) (f : FM) : Prop := ∀ (io : Io) (F : Hp) (S : Sto) (H : Hp) (d : Vl) (v : V) (ds : List Vl) (vs : List V) (Q : VK) (E : XK), Sta K io F S H → RepV K io F d v → RepVs K io F ds vs →
  RG K (RepA K) (f d ds S) io F H Q E → r v vs H Q
def eMut (g : Sto → Vl → Bool) (f : FM) (o : ME) (a : MA) : ME := fun ρ S => (o ρ S).bind fun d S1 => if g S1 d then (a ρ S1).bind fun ds S2 => f d ds S2 else .bad
def GuardOk (K : PySem.W.Frag) (T : String) (g : Sto → Vl → Bool) : Prop := ∀ (io : Io) (F : Hp) (S : Sto) (H : Hp) (d : Vl) (v : V), Sta K io F S H → RepV K io F d v → g S d = true → tyV K T v H
theorem guardL {K : PySem.W.Frag} : GuardOk K "list" isL := fun io F S H d v st r h => st.isL r h
section
variable {X : Cx} {W : WX} {a b c e o : Expr} {ma mb mc mo : ME} {pos apos : Pos} {es : List Expr} {mas : MA}
theorem oe_mut {T id : String} {name : Str} {r : V → List V → Hp → VK → Prop} {g : Sto → Vl → Bool} {f : FM} (pa : PlainAttrs T) (slot : Slot T name id) (hty : typeOf (.builtin id) = pure (.type "method_descriptor")) (hm : MtR X id r) (hg : GuardOk X.K T g) (hf : MutOk X.K r f)
    (ho : OE X W o mo) (ha : OA X W (e :: es) mas)
    (hbase : attributeBase o name X.env (eval o X.env) = eval o X.env := by rfl)
    (hfew : ((backTo pos (starEach (e :: es) X.env)).all (fun x => !x.1) && (backToKw pos (keywordEach [] X.env)).all (fun x => x.1.isSome)
      && decide ((e :: es).length + ([] : List Keyword).length + (if ([] : List Keyword).isEmpty then 0 else 1) < 30)) = true := by rfl)
    (hline : (apos.endLine == pos.line) = true := by rfl) (hs : starEach (e :: es) X.env = (false, eval e X.env) :: starEach es X.env := by rfl) (hplain : (backTo pos (starEach es X.env)).any (·.1) = false := by rfl) :
    OE X W (.Call (.Attribute o name apos) (e :: es) [] pos) (eMut g f mo mas) := by
  obtain ⟨u, p, ho⟩ := ho
  obtain ⟨t, q, ha⟩ := ha
  refine ⟨_, pe_bm pa slot hty hm p q hbase hfew hline hs hplain, fun ρ S io F σ H Q st en h => ?_⟩
  refine ho ρ S io F σ H _ st en (RG.bind h fun d S1 io1 F1 H1 v e1 n1 s1 r1 h1 => ?_)
  by_cases q2 : g S1 d = true
  · rw [if_pos q2] at h1
    refine ⟨hg _ _ _ _ _ _ s1 r1 q2, ?_⟩
    refine ha ρ S1 io1 F1 σ H1 _ s1 (en.nxt n1) (RG.bind h1 fun d2 S2 io2 F2 H2 v2 e2 n2 s2 r2 h2 => ?_)
    exact hf io2 F2 S2 H2 d v d2 v2 Q _ s2 (r1.mono n2.han n2.fr) r2 h2
  · rw [if_neg q2] at h1
    exact h1.elim
theorem oe_mut0 {T id : String} {name : Str} {r : V → List V → Hp → VK → Prop} {g : Sto → Vl → Bool} {f : FM} (pa : PlainAttrs T) (slot : Slot T name id) (hty : typeOf (.builtin id) = pure (.type "method_descriptor")) (hm : MtR X id r) (hg : GuardOk X.K T g) (hf : MutOk X.K r f)
    (ho : OE X W o mo) (hbase : attributeBase o name X.env (eval o X.env) = eval o X.env := by rfl) (hline : (apos.endLine == pos.line) = true := by rfl) :
    OE X W (.Call (.Attribute o name apos) [] [] pos) (eMut g f mo aNil) := by
  obtain ⟨u, p, ho⟩ := ho
  refine ⟨_, pe_bm0 pa slot hty hm p hbase hline, fun ρ S io F σ H Q st en h => ?_⟩
  refine ho ρ S io F σ H _ st en (RG.bind h fun d S1 io1 F1 H1 v e1 n1 s1 r1 h1 => ?_)
  by_cases q2 : g S1 d = true
  · rw [if_pos q2] at h1
    refine ⟨hg _ _ _ _ _ _ s1 r1 q2, ?_⟩
    exact hf io1 F1 S1 H1 d v [] [] Q _ s1 r1 rfl h1
  · rw [if_neg q2] at h1
    exact h1.elim
def fApp : FM := fun d ds S => match d, ds with
  | .c k, [y] => (match S[k]? with
    | some (.lst _) => (frz y S).bind fun z S1 => (match S1[k]? with
      | some (.lst xs) => if xs.length < 100000 then .ok (.p .non) (S1.set k (.lst (xs ++ [z]))) else .bad
      | _ => .bad)
    | some (.lsv xs) => if xs.length < 100000 then (match y with
      | .p _ => .ok (.p .non) (S.set k (.lsv (xs ++ [y])))
      | .c j => if j < k then .ok (.p .non) (S.set k (.lsv (xs ++ [y]))) else .bad) else .bad
    | _ => .bad)
  | _, _ => .bad
theorem ok_app {K : PySem.W.Frag} : MutOk K rAppend fApp := by
  intro io F S H d v ds vs Q E st r1 r2 h
  match d, ds, r1, r2, h with
  | .p x, ds, _, _, h => exact h.elim
  | .c k, [], _, _, h => exact h.elim
  | .c k, _ :: _ :: _, _, _, h => exact h.elim
  | .c k, [y], r1, r2, h =>
    obtain ⟨a, ha, rfl⟩ := r1
    obtain ⟨w, rfl, rw'⟩ := r2.one
    unfold fApp at h
    dsimp only at h
    cases hk : S[k]? with
    | none => rw [hk] at h; exact h.elim
    | some c =>
      rw [hk] at h
      cases c with
      | lst xs0 =>
        dsimp only at h
        obtain ⟨z, S1, F1, n1, s1, rp, hz, h1⟩ := st.frz rw' h
        cases hk1 : S1[k]? with
        | none => rw [hk1] at h1; exact h1.elim
        | some c1 =>
          rw [hk1] at h1
          cases c1 with
          | lst xs =>
            dsimp only at h1
            by_cases q : xs.length < 100000
            · rw [if_pos q] at h1
              obtain ⟨b, us, hb, hF, hH, hr⟩ := s1.cel k _ hk1
              rw [ha] at hb; cases hb
              refine ⟨a, us, w, rfl, rfl, hH, by rw [hr.length]; exact sz5l q, ?_⟩
              obtain ⟨s2, n2⟩ := s1.wlst hk1 (fun _ z => nomatch z) (fun z => nomatch z) (fun _ z => nomatch z) ha (hr.append (.cons rp .nil))
              exact h1 io F1 _ .non n2 s2 rfl
            · rw [if_neg q] at h1; exact h1.elim
          | _ => exact h1.elim
      | lsv xs =>
        dsimp only at h
        by_cases q : xs.length < 100000
        · rw [if_pos q] at h
          obtain ⟨b, us, hb, hF, hH, hr, hlt⟩ := st.cel k _ hk
          rw [ha] at hb; cases hb
          refine ⟨a, us, w, rfl, rfl, hH, by rw [hr.length]; exact sz5l q, ?_⟩
          have key : ∀ (hj : ∀ j, y = .c j → j < k), RG K (RepA K) (.ok (.p .non) (S.set k (.lsv (xs ++ [y])))) io F H Q E → Q .non (upd H a (.lst (us ++ [w]))) := fun hj h => by
            obtain ⟨s2, n2⟩ := st.wlsv hk (fun _ z => nomatch z) (fun z => nomatch z) (fun _ z => nomatch z) ha (hr.append (ys := [y]) (ws := [w]) ⟨w, [], rfl, rw', rfl⟩) (fun j hm => by
              rcases List.mem_append.mp hm with z | z
              · exact hlt j z
              · exact hj j (List.mem_singleton.mp z).symm)
            exact h io F _ .non n2 s2 rfl
          cases y with
          | p x => exact key (fun j z => nomatch z) h
          | c j =>
            dsimp only at h
            by_cases q2 : j < k
            · rw [if_pos q2] at h
              exact key (fun i z => by cases z; exact q2) h
            · rw [if_neg q2] at h; exact h.elim
        · rw [if_neg q] at h; exact h.elim
      | _ => exact h.elim
theorem oe_append (ho : OE X W o mo) (ha : OE X W a ma) (hbase : attributeBase o "append" X.env (eval o X.env) = eval o X.env := by rfl)
    (hfew : ((backTo pos (starEach [a] X.env)).all (fun x => !x.1) && (backToKw pos (keywordEach [] X.env)).all (fun x => x.1.isSome)
      && decide (([a] : List Expr).length + ([] : List Keyword).length + (if ([] : List Keyword).isEmpty then 0 else 1) < 30)) = true := by rfl) (hline : (apos.endLine == pos.line) = true := by rfl) (hs : starEach [a] X.env = (false, eval a X.env) :: starEach [] X.env := by rfl) :
    OE X W (.Call (.Attribute o "append" apos) [a] [] pos) (eMut isL fApp mo (aCons ma aNil)) := oe_mut PySem.F.plainAttrs_list PySem.F.slot_list_append PySem.F.type_list_append mt_append guardL ok_app ho (oa_cons ha oa_nil hs) hbase hfew hline hs rfl
def fPop : FM := fun d ds S => match d, ds with
  | .c k, [] => (match S[k]? with
    | some (.lst xs) => (match xs[xs.length - 1]? with
      | some y => .ok (.p y) (S.set k (.lst xs.dropLast))
      | none => .bad)
    | _ => .bad)
  | _, _ => .bad
theorem ok_pop {K : PySem.W.Frag} : MutOk K rPop fPop := by
  intro io F S H d v ds vs Q E st r1 r2 h
  match d, ds, r1, r2, h with
  | .p x, ds, _, _, h => exact h.elim
  | .c k, _ :: _, _, _, h => exact h.elim
  | .c k, [], r1, r2, h =>
    obtain ⟨a, ha, rfl⟩ := r1
    have r2 : _ = _ := r2
    subst r2
    unfold fPop at h
    dsimp only at h
    split at h
    · rename_i xs hk
      cases hy : xs[xs.length - 1]? with
      | none => rw [hy] at h; exact h.elim
      | some y =>
        rw [hy] at h
        obtain ⟨b, us, hb, hF, hH, hr⟩ := st.cel k _ hk
        rw [ha] at hb; cases hb
        obtain ⟨w, hw, rw'⟩ := hr.get hy
        refine ⟨a, us, w, rfl, rfl, hH, by rw [hr.length]; exact hw, ?_⟩
        obtain ⟨s2, n2⟩ := st.wlst hk (fun _ z => nomatch z) (fun z => nomatch z) (fun _ z => nomatch z) ha hr.dropLast
        exact h io F _ w n2 s2 (Rep.mono n2.fr rw')
    · exact h.elim
theorem oe_pop (ho : OE X W o mo) (hbase : attributeBase o "pop" X.env (eval o X.env) = eval o X.env := by rfl) (hline : (apos.endLine == pos.line) = true := by rfl) :
    OE X W (.Call (.Attribute o "pop" apos) [] [] pos) (eMut isL fPop mo aNil) := oe_mut0 PySem.F.plainAttrs_list PySem.F.slot_list_pop PySem.F.type_list_pop mt_pop guardL ok_pop ho hbase hline
def ixV (d i : Vl) (S : Sto) : Res Vl := match d, i with
  | .c k, .p (.int j) => (match S[k]? with
    | some (.lsv xs) => (match atI xs j with
      | some x => .ok x S
      | none => .bad)
    | _ => op2 pIx d i S)
  | _, _ => op2 pIx d i S
def eItem (a b : ME) : ME := fun ρ S => (a ρ S).bind fun d S1 => (b ρ S1).bind fun i S2 => ixV (nv S2 d) i S2
theorem atI_repV {K : PySem.W.Frag} {io : Io} {F : Hp} {xs : List Vl} {vs : List V} {i : Int} {z : Vl} (r : RepVs K io F xs vs) (e : atI xs i = some z) : ∃ v, atI vs i = some v ∧ RepV K io F z v := by
  unfold atI at e ⊢
  rw [r.length]
  cases q : ixN xs.length i with
  | none => rw [q] at e; cases e
  | some k =>
    rw [q] at e
    exact r.get e
theorem oe_it (ha : OE X W a ma) (hb : OE X W b mb) (hs : PlainIx b := by intro _ _; rfl) : OE X W (.Subscript a b pos) (eItem ma mb) := by
  obtain ⟨ta, pa, ha⟩ := ha
  obtain ⟨tb, pb, hb⟩ := hb
  refine ⟨_, pe_ix (IxR.or (IxR.or ix_list ix_tup) ix_str) pa pb hs, fun ρ S io F σ H Q st en h => ?_⟩
  refine ha ρ S io F σ H _ st en (RG.bind h fun d S1 io1 F1 H1 v e1 n1 s1 r1 h1 => ?_)
  refine hb ρ S1 io1 F1 σ H1 _ s1 (en.nxt n1) (RG.bind h1 fun d2 S2 io2 F2 H2 v2 e2 n2 s2 r2 h2 => ?_)
  replace r1 := s2.nv (r1.mono n2.han n2.fr)
  generalize nv S2 d = d at r1 h2
  unfold ixV at h2
  split at h2
  · rename_i k j
    split at h2
    · rename_i xs hk
      cases hx : atI xs j with
      | none => rw [hx] at h2; exact h2.elim
      | some x =>
        rw [hx] at h2
        obtain ⟨a', ha', rfl⟩ := r1
        have r2 : v2 = .int j := r2
        subst r2
        obtain ⟨b, us, hb, hF, hH, hr, _⟩ := s2.cel k _ hk
        rw [ha'] at hb; cases hb
        obtain ⟨u, hu, ru⟩ := atI_repV hr hx
        exact .inl (.inl ⟨a', us, j, u, rfl, rfl, SqL.of hH, hu, h2 io2 F2 H2 u Nxt.refl s2 ru⟩)
    · exact s2.op2 ok_ix r1 r2 h2
  · exact s2.op2 ok_ix r1 r2 h2
def setV (o i v : Vl) (S : Sto) : Res Unit := match o, i with
  | .c k, .p (.int j) => (match S[k]? with
    | some (.lst _) => (frz v S).bind fun z S1 => (match S1[k]? with
      | some (.lst xs) => (match ixN xs.length j with
        | some n => .ok () (S1.set k (.lst (xs.set n z)))
        | none => .bad)
      | _ => .bad)
    | some (.lsv xs) => (match ixN xs.length j with
      | some n => (match v with
        | .p _ => .ok () (S.set k (.lsv (xs.set n v)))
        | .c m => if m < k then .ok () (S.set k (.lsv (xs.set n v))) else .bad)
      | none => .bad)
    | _ => .bad)
  | _, _ => .bad
def gSubM (o i : ME) : MG := fun d ρ S => (o ρ S).nox.bind fun a S1 => (i ρ S1).nox.bind fun b S2 => (setV a b d S2).bind fun _ S3 => .ok ρ S3
theorem Sta.setV {K : PySem.W.Frag} {io : Io} {F : Hp} {S : Sto} {H : Hp} {o i d : Vl} {vo vi v : V} {C D : Type} {R' : Io → Hp → C → D → Prop} {g : Unit → Sto → Res C} {Q : D → Hp → Prop} {E : XK} (st : Sta K io F S H) (ro : RepV K io F o vo) (ri : RepV K io F i vi) (rv : RepV K io F d v)
    (h : RG K R' ((Mir.setV o i d S).bind g) io F H Q E) : ∃ p xs k j, vo = .ref p ∧ vi = .int k ∧ H p = some (.lst xs) ∧ ixN xs.length k = some j ∧ ∃ S' F', Nxt io F H io F' (upd H p (.lst (xs.set j v))) ∧ Sta K io F' S' (upd H p (.lst (xs.set j v))) ∧ RG K R' (g () S') io F' (upd H p (.lst (xs.set j v))) Q E := by
  unfold Mir.setV at h
  split at h
  · rename_i k j
    obtain ⟨a, ha, rfl⟩ := ro
    have ri : vi = .int j := ri
    subst ri
    cases hk : S[k]? with
    | none => rw [hk] at h; exact h.elim
    | some c =>
      rw [hk] at h
      cases c with
      | lst xs0 =>
        dsimp only at h
        have q : ((Mir.frz d S).bind fun z S1 => (match S1[k]? with
          | some (.lst xs) => (match ixN xs.length j with
            | some n => Res.ok () (S1.set k (.lst (xs.set n z)))
            | none => .bad)
          | _ => .bad)).bind g = (Mir.frz d S).bind fun z S1 => (match S1[k]? with
          | some (.lst xs) => (match ixN xs.length j with
            | some n => Res.ok () (S1.set k (.lst (xs.set n z)))
            | none => .bad)
          | _ => .bad).bind g := by cases Mir.frz d S <;> rfl
        rw [q] at h
        obtain ⟨z, S1, F1, n1, s1, rp, hz, h1⟩ := st.frz rv h
        cases hk1 : S1[k]? with
        | none => rw [hk1] at h1; exact h1.elim
        | some c1 =>
          rw [hk1] at h1
          cases c1 with
          | lst xs =>
            dsimp only at h1
            cases hn : ixN xs.length j with
            | none => rw [hn] at h1; exact h1.elim
            | some n =>
              rw [hn] at h1
              obtain ⟨b, us, hb, hF, hH, hr⟩ := s1.cel k _ hk1
              rw [ha] at hb; cases hb
              obtain ⟨s2, n2⟩ := s1.wlst hk1 (fun _ z => nomatch z) (fun z => nomatch z) (fun _ z => nomatch z) ha (hr.set n rp)
              exact ⟨a, us, j, n, rfl, rfl, hH, by rw [hr.length]; exact hn, _, F1, n1.trans n2, s2, RG.step n2 h1⟩
          | _ => exact h1.elim
      | lsv xs =>
        dsimp only at h
        cases hn : ixN xs.length j with
        | none => rw [hn] at h; exact h.elim
        | some n =>
          rw [hn] at h
          obtain ⟨b, us, hb, hF, hH, hr, hlt⟩ := st.cel k _ hk
          rw [ha] at hb; cases hb
          have key : ∀ (hj : ∀ j, d = .c j → j < k), RG K R' ((Res.ok () (S.set k (.lsv (xs.set n d)))).bind g) io F H Q E → ∃ S' F', Nxt io F H io F' (upd H a (.lst (us.set n v))) ∧ Sta K io F' S' (upd H a (.lst (us.set n v))) ∧ RG K R' (g () S') io F' (upd H a (.lst (us.set n v))) Q E := fun hj h => by
            obtain ⟨s2, n2⟩ := st.wlsv hk (fun _ z => nomatch z) (fun z => nomatch z) (fun _ z => nomatch z) ha (hr.set n rv) (fun j hm => by
              rcases List.mem_or_eq_of_mem_set hm with z | z
              · exact hlt j z
              · exact hj j z.symm)
            exact ⟨_, F, n2, s2, RG.step n2 h⟩
          refine ⟨a, us, j, n, rfl, rfl, hH, by rw [hr.length]; exact hn, ?_⟩
          cases d with
          | p x => exact key (fun j z => nomatch z) h
          | c m =>
            dsimp only at h
            by_cases q2 : m < k
            · rw [if_pos q2] at h
              exact key (fun i z => by cases z; exact q2) h
            · rw [if_neg q2] at h; exact h.elim
      | _ => exact h.elim
  · exact h.elim
theorem og_sub (ho : OE X W0 o mo) (hi : OE X W0 a ma)
    (hs : ∀ v, assign (.Subscript o a pos) X.env v = (do
      let ov ← holding [v] (eval o X.env)
      let iv ← holding [v, ov] (eval a X.env)
      standAt pos
      holding [v, ov, iv] (setItem ov iv v)
      release [v, ov, iv] []) := by intro _; rfl) : OG X W0 (.Subscript o a pos) [] (gSubM mo ma) := by
  obtain ⟨to, po, ho⟩ := ho
  obtain ⟨ti, pi, hi⟩ := hi
  refine ⟨_, pg_sub po pi set_list hs, fun d v ρ S io F σ H Q st en rv h => ?_⟩
  refine ho ρ S io F σ H _ st en (RG.nox h fun d1 S1 io1 F1 H1 v1 e1 n1 s1 r1 h1 => ?_)
  refine hi ρ S1 io1 F1 σ H1 _ s1 (en.nxt n1) (RG.nox h1 fun d2 S2 io2 F2 H2 v2 e2 n2 s2 r2 h2 => ?_)
  obtain ⟨p, xs, k, j, e3, e4, hp, hj, S3, F3, n3, s3, h3⟩ := s2.setV (r1.mono n2.han n2.fr) r2 (rv.mono (n1.trans n2).han (n1.trans n2).fr) h2
  exact ⟨p, xs, k, j, e3, e4, hp, hj, h3 io2 F3 _ σ Nxt.refl s3 ⟨en.nxt ((n1.trans n2).trans n3), agree_refl⟩⟩
end
end Mir

namespace Mir
open PySem L2
structure RoomG (k : Nat) (A : Around) : Prop where
  r : Room k A
  gd : A.guards = some []
theorem RoomG.mono {j k : Nat} {A : Around} (r : RoomG k A) (h : j ≤ k) : RoomG j A := ⟨r.r.mono h, r.gd⟩
theorem RoomG.deeper {k : Nat} {A : Around} (r : RoomG (k + 1) A) (env : PySem.Env) : RoomG k (A.deeper env) := ⟨r.r.deeper env, r.gd⟩
theorem RoomG.in1 {k : Nat} {A : Around} (r : RoomG (k + 1) A) : RoomG k A.in1 := ⟨r.r.in1, r.gd⟩
theorem make_guards {A : Around} {C : Addr} {us : List Value} {kw : List (Str × Value)} (h : A.guards = some []) : (A.under (.builtin "type.__call__" ⟨.ref C :: us, kw⟩)).guards = some [] := by
  have e : (Code.builtin "type.__call__" ⟨.ref C :: us, kw⟩).guards = [] := by
    unfold Code.guards
    rw [if_neg]
    show ¬ (guardIds.contains "type.__call__" = true)
    decide +kernel
  show pushGuards (Code.builtin "type.__call__" ⟨.ref C :: us, kw⟩).guards A.guards = some []
  rw [e, h]
  rfl
theorem RoomG.make {k : Nat} {A : Around} (r : RoomG (k + 1) A) (C : Addr) (us : List Value) (kw : List (Str × Value)) : RoomG k (A.under (.builtin "type.__call__" ⟨.ref C :: us, kw⟩)) := ⟨r.r.make C us kw, make_guards r.gd⟩
structure FnG (P : Program) (w : World) (K : PySem.W.Frag) (mg : Str → Option Value) (base : Heap) (k : Nat) (f : Addr) (fd : FuncData) (ps : List Str) (sp : Sp) : Prop where
  len : ∀ vs H Q E, sp vs H Q E → vs.length = ps.length
  run : ∀ (A : Around) (outer : List PySem.Env) (s : Shared) (H : Hp) (args : Args) (us : List Value) (vs : List V) (Q : VK) (E : XK), RoomG k A → Env0 P w K mg base A outer s H → BindsTo s fd args (ps.zip us) → Vals vs us → sp vs H Q E →
    codeAny (model P w) A (.call (.ref f) args) (CR (L2.CX P w) outer P w H s Q E) s
theorem FnG.mono {P : Program} {w : World} {K : PySem.W.Frag} {mg : Str → Option Value} {base : Heap} {j k : Nat} {f : Addr} {fd : FuncData} {ps : List Str} {sp : Sp} (F : FnG P w K mg base j f fd ps sp) (h : j ≤ k) : FnG P w K mg base k f fd ps sp :=
  ⟨F.len, fun A outer s H args us vs Q E hr => F.run A outer s H args us vs Q E (hr.mono h)⟩
theorem fnG_ofC {P : Program} {w : World} {K : PySem.W.Frag} {mg : Str → Option Value} {base : Heap} {x qual : Str} {params : Arguments} {body : List Stmt} {scope : Scope} {dvs : List V} {kws : List (Str × V)} {f : Addr} {fd : FuncData} {N ps : List Str} {k : Nat} {sp : Sp}
    (F : FunD K x qual params body scope dvs kws f fd) (S : FnScope N ps scope) (len : ∀ vs H Q E, sp vs H Q E → vs.length = ps.length)
    (hbody : ∀ (cdv : Value) (A : Around) (outer : List PySem.Env) (s : Shared) (H : Hp) (vs : List V) (Q : VK) (E : XK), fd.code = cdv → RoomG k (A.deeper (PyProof.Rows.envOfC qual scope s.heap.objs.size f cdv)) → sp vs H Q E →
      ∃ t, PSs (cxOf (L2.CX P w) P w K mg base N qual scope f cdv A outer s H E) body t ∧ t { nx := fun _ H' => Q .non H', rt := Q } (L2.start N vs) H) : FnG P w K mg base (k + 1) f fd ps sp := by
  obtain ⟨oc, od, dV, kV, doc, pm, an, cdv, ct, osl, rfl, lk, hcd, _, _⟩ := F.ex
  refine ⟨len, fun A outer s H args us vs Q E hr e0 hb r hsp => ?_⟩
  have KX : K.In s.heap := e0.mod.kin.keeps fun b o e => (e0.bs b o e).1
  have lim : s.heap.NoLimit := e0.mod.nolimit.keeps fun b o e => (e0.bs b o e).1
  refine codeAny_call_function hr.r.depth (KX _ _ lk) rfl S.co S.gen rfl (PySem.W.codeRec_of KX hcd) (hb _ _ _ _ ?_)
  refine wpAny_newFunctionEnv_cells S.kind (fun y hy => ?_) fun env he s1 x => ?_
  · rcases S.par y.1 (List.of_mem_zip hy).1 with q | q
    · exact .inl q
    · exact .inr ⟨q, PySem.W.cellsFrom_some _ _ _ (.inl q)⟩
  · subst he
    obtain ⟨t, ht, hq⟩ := hbody cdv A outer s H vs Q E rfl (hr.deeper _) hsp
    refine ⟨lim.keeps x.toInCall.keep, codeAny_func ?_⟩
    refine wpAny_mono (ht.run [] s1 (L2.start N vs) H _ (inv_start S hr.r.hd e0 (len _ _ _ _ hsp) r x) hq) (fun fl s' hs => ?_) fun e s' hs => hs
    cases fl with
    | ret u =>
      obtain ⟨v, σ', H', J, rv, q⟩ := hs
      exact ⟨v, H', J.os, J.bare, J.base, J.hok, rv, q⟩
    | next =>
      obtain ⟨σ', H', J, q⟩ := hs
      exact ⟨.non, H', J.os, J.bare, J.base, J.hok, rfl, q⟩
    | brk =>
      obtain ⟨_, _, _, q⟩ := hs
      exact q.elim
    | cont =>
      obtain ⟨_, _, _, q⟩ := hs
      exact q.elim
theorem fnG_of {P : Program} {w : World} {K : PySem.W.Frag} {mg : Str → Option Value} {base : Heap} {x qual : Str} {params : Arguments} {body : List Stmt} {scope : Scope} {dvs : List V} {kws : List (Str × V)} {f : Addr} {fd : FuncData} {N ps : List Str} {k : Nat} {sp : Sp}
    (F : FunD K x qual params body scope dvs kws f fd) (S : FnScope N ps scope) (len : ∀ vs H Q E, sp vs H Q E → vs.length = ps.length)
    (hbody : ∀ (cdv : Value) (A : Around) (outer : List PySem.Env) (s : Shared) (H : Hp) (vs : List V) (Q : VK) (E : XK), RoomG k (A.deeper (PyProof.Rows.envOfC qual scope s.heap.objs.size f cdv)) → sp vs H Q E →
      ∃ t, PSs (cxOf (L2.CX P w) P w K mg base N qual scope f cdv A outer s H E) body t ∧ t { nx := fun _ H' => Q .non H', rt := Q } (L2.start N vs) H) : FnG P w K mg base (k + 1) f fd ps sp := fnG_ofC F S len fun cdv A outer s H vs Q E _ => hbody cdv A outer s H vs Q E
theorem run_fnG {X : Cx} {k : Nat} {f : Addr} {fd : FuncData} {ps : List Str} {sp : Sp} {E : St → XK} {pins : List (Addr × Obj)} {σ : St} {H : Hp} {s : Shared} {Q : VK} {us : List Value} {vs : List V} (F : FnG X.prog X.w X.K X.mg X.base k f fd ps sp) (hr : RoomG k X.A) (hb : Binds X.K fd ps [])
    (hx : PassesAt (L2.CX X.prog X.w) X σ (E σ)) (I : Inv X pins σ H s) (r : Vals vs us) (h : sp vs H Q (E σ)) : wpAny (model X.prog X.w) X.A (call (.ref f) us) (EP X pins σ Q) X.xe s := by
  have hl : us.length = ps.length := by rw [← r.length]; exact F.len _ _ _ _ h
  have b := hb s us I.kIn (by rw [List.append_nil]; exact hl)
  rw [List.append_nil] at b
  refine wpAny_call (codeAny_mono (F.run X.A X.stack s H ⟨us, []⟩ us vs Q (E σ) hr I.env0 b r h) fun r s' hq => ?_)
  match r, hq with
  | .error e, hq => exact hx pins H s e s' I hq
  | .ok (.ret u), hq => exact I.after hq
  | .ok .next, hq => exact hq.elim
  | .ok .brk, hq => exact hq.elim
  | .ok .cont, hq => exact hq.elim
abbrev MF := List Vl → Sto → Res Vl
def spM (K : PySem.W.Frag) (m : MF) : Sp := fun vs H Q E => ∃ io F S ds, Sta K io F S H ∧ RepVs K io F ds vs ∧ RG K (RepA K) (m ds S) io F H Q E
def retV (n : Nat) (d : Vl) (S : Sto) : Res Vl := match d with
  | .p x => .ok (.p x) (S.take n)
  | .c j => if j < n then .ok (.c j) (S.take n) else (frz (.c j) S).bind fun y S2 => .ok (.p y) (S2.take n)
def endF (n : Nat) (r : RF) : Res Vl := match r with
  | .ok (.rt d) S => retV n d S
  | .ok (.nx _) S => .ok (.p .non) (S.take n)
  | .ok (.xc _ c x) S => .exc c x (S.take n)
  | _ => .bad
def mkF (n k : Nat) (body : MS) : MF := fun ds S => if ds.length = n then endF S.length (body (ds.map some ++ List.replicate k none) S) else .bad
def endK (n : Nat) (r : RF) : Res Vl := match r with
  | .ok (.rt (.c j)) S => if j < n then .bad else (match S[j]? with
    | some (.lst xs) => .ok (.c n) (S.take n ++ [.lst xs])
    | _ => .bad)
  | .ok (.xc _ c x) S => .exc c x (S.take n)
  | _ => .bad
def mkK (n k : Nat) (body : MS) : MF := fun ds S => if ds.length = n then endK S.length (body (ds.map some ++ List.replicate k none) S) else .bad
section
variable {K : PySem.W.Frag} {io io1 : Io} {F F1 H H1 : Hp} {S S1 : Sto} {Q : VK} {E : XK}
theorem ret_ok (hn : io.length = S.length) (nx : Nxt io F H io1 F1 H1) (st : Sta K io1 F1 S1 H1) {d : Vl} {v : V} (r : RepV K io1 F1 d v) (h : RG K (RepA K) (retV S.length d S1) io F H Q E) : Q v H1 := by
  cases d with
  | p x => exact h (io1.take S.length) F1 H1 v (nx.cut hn) (st.cut _) r
  | c j =>
    unfold retV at h
    dsimp only at h
    by_cases hj : j < S.length
    · rw [if_pos hj] at h
      exact h (io1.take S.length) F1 H1 v (nx.cut hn) (st.cut _) (r.cut fun i e => by cases e; exact hj)
    · rw [if_neg hj] at h
      obtain ⟨y, S2, F2, n2, s2, rp, hz, h2⟩ := st.frz r (RG.step nx h)
      rw [hz] at h
      exact h (io1.take S.length) F2 H1 v ((nx.trans n2).cut hn) (s2.cut _) rp
theorem keep_ok (hn : io.length = S.length) (nx : Nxt io F H io1 F1 H1) (st : Sta K io1 F1 S1 H1) {d : Vl} {v : V} (r : RepV K io1 F1 d v) (h : RG K (RepA K) (endK S.length (.ok (.rt d) S1)) io F H Q E) : Q v H1 := by
  cases d with
  | p x => exact h.elim
  | c j =>
    unfold endK at h
    dsimp only at h
    by_cases hj : j < S.length
    · rw [if_pos hj] at h; exact h.elim
    · rw [if_neg hj] at h
      split at h
      · rename_i xs hk
        obtain ⟨a, ha, rfl⟩ := r
        obtain ⟨b, vs, hb, hF, hH, hr⟩ := st.cel j _ hk
        rw [ha] at hb; cases hb
        have s2 := st.cut S.length
        have hl : (io1.take S.length).length = S.length := by
          rw [List.length_take]
          have : j < io1.length := (List.getElem?_eq_some_iff.mp ha).1
          omega
        have hl2 : (S1.take S.length).length = S.length := by rw [← s2.len]; exact hl
        have hp : ∀ k : Nat, (io1.take S.length)[k]? ≠ some (some a) := fun k e => by
          rw [List.getElem?_take] at e
          split at e
          · have := st.inj k j a e ha
            omega
          · cases e
        have hi : (io1.take S.length ++ [some a])[S.length]? = some (some a) := by
          rw [List.getElem?_append_right (by rw [hl]; exact Nat.le_refl _), hl]
          simp
        obtain ⟨s3, n3⟩ := s2.lay hp hF hH (c := .lst xs) ⟨a, vs, by rw [hl2]; exact hi, hF, hH, hr⟩
        refine h (io1.take S.length ++ [some a]) F1 H1 (.ref a) ?_ s3 ⟨a, hi, rfl⟩
        have nc := nx.cut hn
        refine ⟨fun k x e => n3 k x (nc.han k x e), nc.fr, nc.out, fun k x e => ?_, nc.stay, nc.nf⟩
        rw [List.getElem?_append] at e
        split at e
        · exact nc.new k x e
        · rename_i hk2
          have : k - (io1.take S.length).length = 0 := by
            have := (List.getElem?_eq_some_iff.mp e).1
            simp only [List.length_cons, List.length_nil] at this
            omega
          rw [this] at e
          have e : a = x := by simpa using e
          subst e
          rcases nx.new j a ha with z | z
          · have := (List.getElem?_eq_some_iff.mp z).1
            rw [hn] at this
            exact absurd this hj
          · exact .inr z
      · exact h.elim
end
section
variable {P : Program} {w : World} {K : PySem.W.Frag} {mg : Str → Option Value} {base : Heap} {x qual : Str} {params : Arguments} {body : List Stmt} {scope : Scope} {dvs : List V} {kws : List (Str × V)} {f : Addr} {fd : FuncData} {N ps : List Str} {k nl : Nat} {m : MS}
theorem spM_len {en : Nat → RF → Res Vl} {n k : Nat} {m : MS} {vs : List V} {H : Hp} {Q : VK} {E : XK} (h : spM K (fun ds S => if ds.length = n then en S.length (m (ds.map some ++ List.replicate k none) S) else .bad) vs H Q E) : vs.length = n := by
  obtain ⟨io, F, S, ds, st, r, h⟩ := h
  by_cases q : ds.length = n
  · rw [r.length, q]
  · dsimp only at h
    rw [if_neg q] at h
    exact h.elim
theorem fn_okC (F : FunD K x qual params body scope dvs kws f fd) (sc : FnScope N ps scope) (hN : N.length = ps.length + nl)
    (hb : ∀ (cdv : Value) (A : Around) (outer : List PySem.Env) (s : Shared) (H : Hp) (E : XK), fd.code = cdv → RoomG k (A.deeper (PyProof.Rows.envOfC qual scope s.heap.objs.size f cdv)) → OSs (cxOf (L2.CX P w) P w K mg base N qual scope f cdv A outer s H E) (fun c d _ H' => E c d H') body m) :
    FnG P w K mg base (k + 1) f fd ps (spM K (mkF ps.length nl m)) := by
  refine fnG_ofC F sc (fun vs H Q E h => spM_len h) fun cdv A outer s H vs Q E hcd hr h => ?_
  obtain ⟨t, pt, ht⟩ := hb cdv A outer s H E hcd hr
  refine ⟨t, pt, ?_⟩
  have hl := spM_len h
  obtain ⟨io, FF, S, ds, st, r, h⟩ := h
  have hd : ds.length = ps.length := by rw [← r.length]; exact hl
  unfold mkF at h
  rw [if_pos hd] at h
  have e0 := Env.start (K := K) (io := io) (F := FF) nl r
  have hst : L2.start N vs = vs.map some ++ List.replicate nl none := by
    unfold L2.start
    rw [hN, hl]
    congr 2
    omega
  rw [hst]
  refine ht _ S io FF _ H _ st e0 ?_
  show RS K (m (ds.map some ++ List.replicate nl none) S) io FF H { nx := fun _ H' => Q .non H', rt := Q } (fun c d _ H' => E c d H')
  cases q : m (ds.map some ++ List.replicate nl none) S with
  | bad => rw [q] at h; exact h.elim
  | ok fl S1 =>
    rw [q] at h
    cases fl with
    | nx ρ => exact fun io1 F1 H1 σ1 nx s1 en1 => h (io1.take S.length) F1 H1 .non (nx.cut st.len) (s1.cut _) rfl
    | rt d => exact fun io1 F1 H1 v nx s1 r1 => ret_ok st.len nx s1 r1 h
    | bk ρ => exact h.elim
    | ct ρ => exact h.elim
    | xc ρ c x => exact fun io1 F1 H1 d σ1 nx s1 en1 xr => h (io1.take S.length) F1 H1 d (nx.cut st.len) (s1.cut _) xr
theorem fn_ok (F : FunD K x qual params body scope dvs kws f fd) (sc : FnScope N ps scope) (hN : N.length = ps.length + nl)
    (hb : ∀ (cdv : Value) (A : Around) (outer : List PySem.Env) (s : Shared) (H : Hp) (E : XK), RoomG k (A.deeper (PyProof.Rows.envOfC qual scope s.heap.objs.size f cdv)) → OSs (cxOf (L2.CX P w) P w K mg base N qual scope f cdv A outer s H E) (fun c d _ H' => E c d H') body m) :
    FnG P w K mg base (k + 1) f fd ps (spM K (mkF ps.length nl m)) := fn_okC F sc hN fun cdv A outer s H E _ => hb cdv A outer s H E
theorem fn_okK (F : FunD K x qual params body scope dvs kws f fd) (sc : FnScope N ps scope) (hN : N.length = ps.length + nl)
    (hb : ∀ (cdv : Value) (A : Around) (outer : List PySem.Env) (s : Shared) (H : Hp) (E : XK), RoomG k (A.deeper (PyProof.Rows.envOfC qual scope s.heap.objs.size f cdv)) → OSs (cxOf (L2.CX P w) P w K mg base N qual scope f cdv A outer s H E) (fun c d _ H' => E c d H') body m) :
    FnG P w K mg base (k + 1) f fd ps (spM K (mkK ps.length nl m)) := by
  refine fnG_of F sc (fun vs H Q E h => spM_len h) fun cdv A outer s H vs Q E hr h => ?_
  obtain ⟨t, pt, ht⟩ := hb cdv A outer s H E hr
  refine ⟨t, pt, ?_⟩
  have hl := spM_len h
  obtain ⟨io, FF, S, ds, st, r, h⟩ := h
  have hd : ds.length = ps.length := by rw [← r.length]; exact hl
  unfold mkK at h
  rw [if_pos hd] at h
  have e0 := Env.start (K := K) (io := io) (F := FF) nl r
  have hst : L2.start N vs = vs.map some ++ List.replicate nl none := by
    unfold L2.start
    rw [hN, hl]
    congr 2
    omega
  rw [hst]
  refine ht _ S io FF _ H _ st e0 ?_
  show RS K (m (ds.map some ++ List.replicate nl none) S) io FF H { nx := fun _ H' => Q .non H', rt := Q } (fun c d _ H' => E c d H')
  cases q : m (ds.map some ++ List.replicate nl none) S with
  | bad => rw [q] at h; exact h.elim
  | ok fl S1 =>
    rw [q] at h
    cases fl with
    | nx ρ => exact h.elim
    | rt d => exact fun io1 F1 H1 v nx s1 r1 => keep_ok st.len nx s1 r1 h
    | bk ρ => exact h.elim
    | ct ρ => exact h.elim
    | xc ρ c x => exact fun io1 F1 H1 d σ1 nx s1 en1 xr => h (io1.take S.length) F1 H1 d (nx.cut st.len) (s1.cut _) xr
end
def HasPar (fd : FuncData) (params : Arguments) : Prop := ∃ (x qual : Str) (body : List Stmt) (scope : Scope) (kV doc pm : Value) (an : Option Addr) (cdv ct : Value), fd = PySem.W.fnOf x qual params body scope .none kV doc pm an cdv ct
def fdAt (K : PySem.W.Frag) (a : Addr) : Option FuncData := match K.lookup a with
  | some ⟨_, _, .func fd, _⟩ => some fd
  | _ => none
structure GF (P : Program) (w : World) (K : PySem.W.Frag) (mg : Str → Option Value) (base : Heap) (x : Str) (params : Arguments) (ps : List Str) (k : Nat) (m : MF) : Prop where
  gl : mg x = some (.ref (He.ga K x))
  kp : PySem.W.keepIn K (.ref (He.ga K x)) = true
  fn : ∃ fd, FnG P w K mg base k (He.ga K x) fd ps (spM K m) ∧ Binds K fd ps [] ∧ HasPar fd params ∧ fdAt K (He.ga K x) = some fd
theorem FunD.hasPar {K : PySem.W.Frag} {x qual : Str} {params : Arguments} {body : List Stmt} {scope : Scope} {kws : List (Str × V)} {f : Addr} {fd : FuncData} (F : FunD K x qual params body scope [] kws f fd) : HasPar fd params := by
  obtain ⟨oc, od, dV, kV, doc, pm, an, cdv, ct, osl, e, _, _, hd, _⟩ := F.ex
  rcases hd with ⟨_, rfl⟩ | ⟨z, _⟩
  · exact ⟨x, qual, body, scope, kV, doc, pm, an, cdv, ct, e⟩
  · exact absurd rfl z
theorem FunD.at_ {K : PySem.W.Frag} {x qual : Str} {params : Arguments} {body : List Stmt} {scope : Scope} {dvs : List V} {kws : List (Str × V)} {f : Addr} {fd : FuncData} (F : FunD K x qual params body scope dvs kws f fd) : fdAt K f = some fd := by
  obtain ⟨oc, od, dV, kV, doc, pm, an, cdv, ct, osl, e, lk, _⟩ := F.ex
  unfold fdAt
  rw [lk]
theorem takes0 {X : Cx} : Takes X W0 := fun u s' ⟨_, _, _, _, _, _, _, _, _, _, _, _, _, _, _, _, h⟩ => h.elim
def eFn (m : MF) (a : MA) : ME := fun ρ S => (a ρ S).bind m
section
variable {X : Cx} {W : WX} {e o : Expr} {es : List Expr} {mas : MA} {mo : ME} {x : Str} {p pos apos : Pos} {params : Arguments} {ps : List Str} {k j : Nat} {m : MF}
theorem oe_fn (G : GF X.prog X.w X.K X.mg X.base x params ps k m) (hr : RoomG j X.A) (hk : k ≤ j) (tk : Takes X W) (ha : OA X W (e :: es) mas) (hg : Gl X x := by rfl)
    (hdb : (x == ("__debug__" : Str)) = false := by decide) (he : starEach (e :: es) X.env = (false, eval e X.env) :: starEach es X.env := by rfl) (hpl : (backTo pos (starEach es X.env)).any (·.1) = false := by rfl) :
    OE X W (.Call (.Name x p) (e :: es) [] pos) (eFn m mas) := by
  obtain ⟨fd, F, hb, _⟩ := G.fn
  obtain ⟨t, q, ha⟩ := ha
  refine ⟨fun σ H Q => t σ H fun vs H1 => spM X.K m vs H1 Q (WE W σ), ⟨fun pins s σ H Q I h => ?_⟩, fun ρ S io F σ H Q st en h => ?_⟩
  · refine wpAny_Call_Name_kw (ld_glob I hg G.gl ?_ hdb)
    refine PySem.W.callWith_K (h₀ := X.base) I.ok.mod.kin G.kp (thn (q.run pos pins s σ H _ I h) fun us s1 ⟨vs, H1, I1, r, qq⟩ => ⟨I1.kIn, ?_⟩) he hpl
    exact run_fnG (E := WE W) F (hr.mono hk) hb (passAt tk σ) I1 r qq
  refine ha ρ S io F σ H _ st en (RG.bind h fun ds S1 io1 F1 H1 vs e1 n1 s1 r1 h1 => ?_)
  exact ⟨io1, F1, S1, ds, s1, r1, h1⟩
theorem oe_fn0 (G : GF X.prog X.w X.K X.mg X.base x params ps k m) (hr : RoomG j X.A) (hk : k ≤ j) (tk : Takes X W) (hg : Gl X x := by rfl) (hdb : (x == ("__debug__" : Str)) = false := by decide) :
    OE X W (.Call (.Name x p) [] [] pos) (eFn m aNil) := by
  obtain ⟨fd, F, hb, _⟩ := G.fn
  refine ⟨fun σ H Q => spM X.K m [] H Q (WE W σ), ⟨fun pins s σ H Q I h => ?_⟩, fun ρ S io F σ H Q st en h => ⟨io, F, S, [], st, rfl, h⟩⟩
  refine wpAny_Call_Name_kw (ld_glob I hg G.gl ?_ hdb)
  exact PySem.W.callWith_K0 I.kIn G.kp (run_fnG (us := []) F (hr.mono hk) hb (E := WE W) (passAt tk σ) I .nil h)
end
def permL {A : Type} (d : A) (pm : List Nat) (xs : List A) : List A := pm.map fun i => xs.getD i d
def KwTo (params : Arguments) (ps ks : List Str) (n : Nat) (pm : List Nat) : Prop := ∀ (x qual : Str) (body : List Stmt) (scope : Scope) (kV doc pmv : Value) (an : Option Addr) (cdv ct : Value) (us ws : List Value), us.length = n → ws.length = ks.length →
  bindArgs (PySem.W.fnOf x qual params body scope .none kV doc pmv an cdv ct) ⟨us, ks.zip ws⟩ = pure (ps.zip (permL .none pm (us ++ ws)))
theorem vals_perm {vs : List V} {us : List Value} (h : Vals vs us) : ∀ pm : List Nat, (∀ i ∈ pm, i < vs.length) → Vals (permL .non pm vs) (permL .none pm us)
  | [], _ => .nil
  | i :: pm, hi => by
    have hl := h.length
    have h0 := hi i List.mem_cons_self
    obtain ⟨u, hu, ru⟩ := h.get (show vs[i]? = some vs[i] by simp [h0])
    refine Paired.cons ?_ (vals_perm h pm fun j hj => hi j (List.mem_cons_of_mem _ hj))
    show RelV (vs.getD i .non) (us.getD i .none)
    rw [List.getD_eq_getElem?_getD, List.getD_eq_getElem?_getD, hu]
    simpa [h0] using ru
theorem RepVs.perm {K : PySem.W.Frag} {io : Io} {F : Hp} {ds : List Vl} {vs : List V} (h : RepVs K io F ds vs) : ∀ pm : List Nat, (∀ i ∈ pm, i < vs.length) → RepVs K io F (permL (.p .non) pm ds) (permL .non pm vs)
  | [], _ => rfl
  | i :: pm, hi => by
    have hl := h.length
    have h0 := hi i List.mem_cons_self
    obtain ⟨u, hu, ru⟩ := h.get (show ds[i]? = some (ds[i]'(by omega)) by simp)
    refine ⟨vs.getD i .non, _, rfl, ?_, RepVs.perm h pm fun j hj => hi j (List.mem_cons_of_mem _ hj)⟩
    show RepV K io F (ds.getD i (.p .non)) (vs.getD i .non)
    rw [List.getD_eq_getElem?_getD, List.getD_eq_getElem?_getD, hu]
    have : i < ds.length := by omega
    simpa [this] using ru
def OK_ (X : Cx) (W : WX) (kws : List Keyword) (m : MA) : Prop := ∃ t, PK X kws t ∧ ∀ (ρ : En) (S : Sto) (io : Io) (F : Hp) (σ : St) (H : Hp) (Q : List V → Hp → Prop), Sta X.K io F S H → Mir.Env X.K io F ρ σ →
  RG X.K (RepAs X.K) (m ρ S) io F H Q (fun c d H' => W c d σ H') → t σ H Q
section
variable {X : Cx} {W : WX} {e o : Expr} {es : List Expr} {mas mks : MA} {me mo : ME} {x : Str} {p pos apos kpos : Pos} {params : Arguments} {ps ks : List Str} {k j n : Nat} {m : MF} {kws : List Keyword} {nm : Option Str} {pm : List Nat}
theorem ok_nil : OK_ X W [] aNil := ⟨_, pk_nil, fun ρ S io F σ H Q st en h => RG.val (R := RepAs X.K) (d := []) (v := []) st rfl h⟩
theorem ok_cons (ha : OE X W e me) (hr : OK_ X W kws mas) : OK_ X W (⟨nm, e, kpos⟩ :: kws) (aCons me mas) := by
  obtain ⟨t, p, ha⟩ := ha
  obtain ⟨u, q, hr⟩ := hr
  refine ⟨_, pk_cons p q, fun ρ S io F σ H Q st en h => ?_⟩
  refine ha ρ S io F σ H _ st en (RG.bind h fun d S1 io1 F1 H1 v e1 n1 s1 r1 h1 => ?_)
  refine hr ρ S1 io1 F1 σ H1 _ s1 (en.nxt n1) (RG.bind h1 fun d2 S2 io2 F2 H2 v2 e2 n2 s2 r2 h2 => ?_)
  exact RG.val (R := RepAs X.K) (d := d :: d2) s2 ⟨v, v2, rfl, r1.mono n2.han n2.fr, r2⟩ h2
def eFnK (m : MF) (n : Nat) (kl : Nat) (pm : List Nat) (a b : MA) : ME := fun ρ S => (a ρ S).bind fun ds S1 => (b ρ S1).bind fun zs S2 => if ds.length = n ∧ zs.length = kl then m (permL (.p .non) pm (ds ++ zs)) S2 else .bad
theorem run_kw {pins : List (Addr × Obj)} {σ : St} {H : Hp} {s : Shared} {Q : VK} {f : Addr} {fd : FuncData} {us ws : List Value} {vs zs : List V} {sp : Sp} {E : St → XK} (F : FnG X.prog X.w X.K X.mg X.base k f fd ps sp) (hr : RoomG k X.A) (hp : HasPar fd params) (hb : KwTo params ps ks n pm) (hx : PassesAt (L2.CX X.prog X.w) X σ (E σ))
    (hpm : ∀ i ∈ pm, i < n + ks.length) (I : Inv X pins σ H s) (r : Vals vs us) (rz : Vals zs ws) (h1 : vs.length = n) (h2 : zs.length = ks.length) (h : sp (permL .non pm (vs ++ zs)) H Q (E σ)) : wpAny (model X.prog X.w) X.A (call (.ref f) us (ks.zip ws)) (EP X pins σ Q) X.xe s := by
  have r2 : Vals (permL .non pm (vs ++ zs)) (permL .none pm (us ++ ws)) := vals_perm (r.append rz) pm fun i hi => by rw [List.length_append, h1, h2]; exact hpm i hi
  obtain ⟨x, qual, body, scope, kV, doc, pmv, an, cdv, ct, rfl⟩ := hp
  refine wpAny_call (codeAny_mono (F.run X.A X.stack s H ⟨us, ks.zip ws⟩ (permL .none pm (us ++ ws)) (permL .non pm (vs ++ zs)) Q (E σ) hr I.env0 (.of_eq (hb x qual body scope kV doc pmv an cdv ct us ws (by rw [← r.length]; exact h1) (by rw [← rz.length]; exact h2))) r2 h) fun r s' hq => ?_)
  cases r with
  | error e => exact hx pins H s e s' I hq
  | ok fl =>
    cases fl with
    | ret u => exact I.after hq
    | next => exact False.elim hq
    | brk => exact False.elim hq
    | cont => exact False.elim hq
end
end Mir

namespace Mir
open PySem L2
def fldOf {A : Type} (f : Str) : List Str → List A → Option A
  | n :: ns, x :: xs => if f = n then some x else fldOf f ns xs
  | _, _ => none
def putN (f : Str) : List Str → List Str
  | [] => [f]
  | n :: ns => if n = f then n :: ns else n :: putN f ns
def putX {A : Type} (f : Str) (a : A) : List Str → List A → List A
  | n :: ns, x :: xs => if n = f then a :: xs else x :: putX f a ns xs
  | _, _ => [a]
section
variable {K : PySem.W.Frag} {io : Io} {F : Hp} {S : Sto} {H : Hp}
theorem lookup_cons' {B : Type} {f k : Str} {v : B} {r : List (Str × B)} : ((k, v) :: r).lookup f = if f = k then some v else r.lookup f := by
  show (match f == k with | true => some v | false => r.lookup f) = _
  by_cases h : f = k
  · subst h; rw [if_pos rfl, beq_self_eq_true]
  · rw [if_neg h, beq_eq_false_iff_ne.mpr h]
theorem fld_repL : ∀ {ns : List Str} {xs : List P} {gs : List (Str × V)} {f : Str} {x : P}, gs.map (·.1) = ns → RepL K F xs (gs.map (·.2)) → fldOf f ns xs = some x → ∃ v, gs.lookup f = some v ∧ Rep K F x v
  | [], xs, gs, f, x, h1, h2, e => by cases xs <;> cases e
  | n :: ns, [], gs, f, x, h1, h2, e => by cases e
  | n :: ns, y :: xs, [], f, x, h1, h2, e => by cases h1
  | n :: ns, y :: xs, (k, u) :: gs, f, x, h1, ⟨v, r, e1, r1, r2⟩, e => by
    cases h1
    cases e1
    have e : (if f = k then some y else fldOf f (gs.map (·.1)) xs) = some x := e
    rw [lookup_cons']
    by_cases q : f = k
    · rw [if_pos q] at e ⊢
      cases e
      exact ⟨_, rfl, r1⟩
    · rw [if_neg q] at e ⊢
      exact fld_repL rfl r2 e
theorem fld_repV : ∀ {ns : List Str} {xs : List Vl} {gs : List (Str × V)} {f : Str} {x : Vl}, gs.map (·.1) = ns → RepVs K io F xs (gs.map (·.2)) → fldOf f ns xs = some x → ∃ v, gs.lookup f = some v ∧ RepV K io F x v
  | [], xs, gs, f, x, h1, h2, e => by cases xs <;> cases e
  | n :: ns, [], gs, f, x, h1, h2, e => by cases e
  | n :: ns, y :: xs, [], f, x, h1, h2, e => by cases h1
  | n :: ns, y :: xs, (k, u) :: gs, f, x, h1, ⟨v, r, e1, r1, r2⟩, e => by
    cases h1
    cases e1
    have e : (if f = k then some y else fldOf f (gs.map (·.1)) xs) = some x := e
    rw [lookup_cons']
    by_cases q : f = k
    · rw [if_pos q] at e ⊢
      cases e
      exact ⟨_, rfl, r1⟩
    · rw [if_neg q] at e ⊢
      exact fld_repV rfl r2 e
theorem fld_none : ∀ {ns : List Str} {gs : List (Str × V)} {f : Str}, gs.map (·.1) = ns → f ∉ ns → gs.lookup f = none
  | [], [], f, h1, e => rfl
  | [], _ :: _, f, h1, e => by cases h1
  | n :: ns, [], f, h1, e => by cases h1
  | n :: ns, (k, u) :: gs, f, h1, e => by
    cases h1
    rw [lookup_cons', if_neg (fun z => e (by rw [z]; exact List.mem_cons_self))]
    exact fld_none rfl fun z => e (List.mem_cons_of_mem _ z)
theorem put_names : ∀ (gs : List (Str × V)) (f : Str) (v : V), (putF f v gs).map (·.1) = putN f (gs.map (·.1))
  | [], f, v => rfl
  | (k, u) :: gs, f, v => by
    show (if k = f then (k, v) :: gs else (k, u) :: putF f v gs).map (·.1) = if k = f then k :: gs.map (·.1) else k :: putN f (gs.map (·.1))
    by_cases q : k = f
    · rw [if_pos q, if_pos q]; rfl
    · rw [if_neg q, if_neg q]
      show k :: (putF f v gs).map (·.1) = _
      rw [put_names gs f v]
theorem put_vals {d : Vl} {v : V} (hd : RepV K io F d v) {f : Str} : ∀ {gs : List (Str × V)} {xs : List Vl}, RepVs K io F xs (gs.map (·.2)) → RepVs K io F (putX f d (gs.map (·.1)) xs) ((putF f v gs).map (·.2))
  | [], xs, h => by
    cases xs with
    | nil => exact ⟨v, [], rfl, hd, rfl⟩
    | cons x xs => obtain ⟨_, _, e, _⟩ := h; cases e
  | (k, u) :: gs, [], h => by cases h
  | (k, u) :: gs, x :: xs, ⟨w, r, e1, r1, r2⟩ => by
    cases e1
    show RepVs K io F (if k = f then d :: xs else x :: putX f d (gs.map (·.1)) xs) ((if k = f then (k, v) :: gs else (k, u) :: putF f v gs).map (·.2))
    by_cases q : k = f
    · rw [if_pos q, if_pos q]; exact ⟨v, _, rfl, hd, r2⟩
    · rw [if_neg q, if_neg q]; exact ⟨u, _, rfl, r1, put_vals hd r2⟩
theorem put_mem {d : Vl} {f : Str} {j : Nat} : ∀ {ns : List Str} {xs : List Vl}, Vl.c j ∈ putX f d ns xs → Vl.c j ∈ xs ∨ d = .c j
  | [], xs, h => by
    have h : Vl.c j ∈ [d] := by cases xs <;> exact h
    exact .inr (List.mem_singleton.mp h).symm
  | n :: ns, [], h => .inr (List.mem_singleton.mp h).symm
  | n :: ns, x :: xs, h => by
    have h : Vl.c j ∈ if n = f then d :: xs else x :: putX f d ns xs := h
    by_cases q : n = f
    · rw [if_pos q] at h
      rcases List.mem_cons.mp h with z | z
      · exact .inr z.symm
      · exact .inl (List.mem_cons_of_mem _ z)
    · rw [if_neg q] at h
      rcases List.mem_cons.mp h with z | z
      · exact .inl (by rw [z]; exact List.mem_cons_self)
      · rcases put_mem z with y | y
        · exact .inl (List.mem_cons_of_mem _ y)
        · exact .inr y
end
def fldV (c f : Str) (d : Vl) (S : Sto) : Res Vl := match d with
  | .p (.obj c' ns xs) => if c' = c then (match fldOf f ns xs with
    | some x => .ok (.p x) S
    | none => .bad) else .bad
  | .c k => (match S[k]? with
    | some (.ins c' ns xs) => if c' = c then (match fldOf f ns xs with
      | some x => .ok x S
      | none => .bad) else .bad
    | _ => .bad)
  | _ => .bad
def eFld (c f : Str) (mo : ME) : ME := fun ρ S => (mo ρ S).bind fun d S1 => fldV c f (nv S1 d) S1
section
variable {X : Cx} {W : WX} {a b e o : Expr} {ma mb mo : ME} {pos apos : Pos} {c f : Str}
theorem oe_fld (hc : Cls X.K (He.ga X.K c)) (hn : NoAttr X.K (He.ga X.K c) f) (ho : OE X W o mo) (hb : attributeBase o f X.env (eval o X.env) = eval o X.env := by rfl) : OE X W (.Attribute o f pos) (eFld c f mo) := by
  obtain ⟨t, p, ho⟩ := ho
  refine ⟨_, pe_fld p hb, fun ρ S io F σ H Q st en h => ?_⟩
  refine ho ρ S io F σ H _ st en (RG.bind h fun d S1 io1 F1 H1 v e1 n1 s1 r1 h1 => ?_)
  replace r1 := s1.nv r1
  generalize nv S1 d = d at r1 h1
  cases d with
  | p x =>
    cases x with
    | obj c' ns xs =>
      replace h1 : RG X.K (RepA X.K) (if c' = c then (match fldOf f ns xs with
        | some x => .ok (.p x) S1
        | none => .bad) else .bad) io1 F1 H1 Q (fun c d H' => W c d σ H') := h1
      by_cases q : c' = c
      · rw [if_pos q] at h1
        subst q
        cases hx : fldOf f ns xs with
        | none => rw [hx] at h1; exact h1.elim
        | some x =>
          rw [hx] at h1
          obtain ⟨a, dx, gs, rfl, ha, hg, hr⟩ := r1
          obtain ⟨v, hv, rv⟩ := fld_repL hg hr hx
          exact ⟨a, _, dx, gs, v, rfl, s1.sub _ _ ha, hc, hn, hv, h1 io1 F1 H1 v Nxt.refl s1 rv⟩
      · rw [if_neg q] at h1; exact h1.elim
    | _ => exact h1.elim
  | c k =>
    replace h1 : RG X.K (RepA X.K) (match S1[k]? with
      | some (.ins c' ns xs) => if c' = c then (match fldOf f ns xs with
        | some x => .ok x S1
        | none => .bad) else .bad
      | _ => .bad) io1 F1 H1 Q (fun c d H' => W c d σ H') := h1
    cases hk : S1[k]? with
    | none => rw [hk] at h1; exact h1.elim
    | some cc =>
      rw [hk] at h1
      cases cc with
      | ins c' ns xs =>
        dsimp only at h1
        by_cases q : c' = c
        · rw [if_pos q] at h1
          subst q
          cases hx : fldOf f ns xs with
          | none => rw [hx] at h1; exact h1.elim
          | some x =>
            rw [hx] at h1
            obtain ⟨a, ha, rfl⟩ := r1
            obtain ⟨b, dx, gs, hb, hF, hH, hg, hr, _⟩ := s1.cel k _ hk
            rw [ha] at hb; cases hb
            obtain ⟨v, hv, rv⟩ := fld_repV hg hr hx
            exact ⟨a, _, dx, gs, v, rfl, hH, hc, hn, hv, h1 io1 F1 H1 v Nxt.refl s1 rv⟩
        · rw [if_neg q] at h1; exact h1.elim
      | _ => exact h1.elim
def putC (c f : Str) (k : Nat) (d : Vl) (S : Sto) : Res Unit := match S[k]? with
  | some (.ins c' ns xs) => if c' = c ∧ ns.length < 1000 then .ok () (S.set k (.ins c' (putN f ns) (putX f d ns xs))) else .bad
  | _ => .bad
def fSet (c f : Str) (o v : Vl) (S : Sto) : Res Unit := match o with
  | .c k => (match v with
    | .p x => putC c f k (.p x) S
    | .c j => if j < k then putC c f k (.c j) S else (frz (.c j) S).bind fun x S1 => putC c f k (.p x) S1)
  | _ => .bad
def gFldM (c f : Str) (o : ME) : MG := fun d ρ S => (o ρ S).nox.bind fun a S1 => (fSet c f a d S1).bind fun _ S2 => .ok ρ S2
theorem Sta.putC {K : PySem.W.Frag} {io : Io} {F : Hp} {S : Sto} {H : Hp} {k : Nat} {a : Addr} {d : Vl} {v : V} {C D : Type} {R' : Io → Hp → C → D → Prop} {g : Unit → Sto → Res C} {Q : D → Hp → Prop} {E : XK} (st : Sta K io F S H) (ha : io[k]? = some (some a)) (rv : RepV K io F d v) (hj : ∀ j, d = .c j → j < k)
    (h : RG K R' ((Mir.putC c f k d S).bind g) io F H Q E) : ∃ dx fs, H a = some (.ins (He.ga K c) dx fs) ∧ fs.length < 1000 ∧ ∃ S', Nxt io F H io F (upd H a (.ins (He.ga K c) dx (putF f v fs))) ∧ Sta K io F S' (upd H a (.ins (He.ga K c) dx (putF f v fs))) ∧ RG K R' (g () S') io F (upd H a (.ins (He.ga K c) dx (putF f v fs))) Q E := by
  unfold Mir.putC at h
  cases hk : S[k]? with
  | none => rw [hk] at h; exact h.elim
  | some cc =>
    rw [hk] at h
    cases cc with
    | ins c' ns xs =>
      dsimp only at h
      by_cases q : c' = c ∧ ns.length < 1000
      · rw [if_pos q] at h
        obtain ⟨rfl, hl⟩ := q
        obtain ⟨b, dx, gs, hb, hF, hH, hg, hr, hlt⟩ := st.cel k _ hk
        rw [ha] at hb; cases hb
        subst hg
        rw [List.length_map] at hl
        obtain ⟨s2, n2⟩ := st.write (o := .ins (He.ga K c') dx (putF f v gs)) (c := .ins c' (putN f (gs.map (·.1))) (putX f d (gs.map (·.1)) xs)) ha hF ⟨a, dx, putF f v gs, ha, hF, upd_same, put_names gs f v, put_vals rv hr, fun j hm => by
          rcases put_mem hm with z | z
          · exact hlt j z
          · exact hj j z⟩
        exact ⟨dx, gs, hH, hl, _, n2, s2, RG.step n2 h⟩
      · rw [if_neg q] at h; exact h.elim
    | _ => exact h.elim
theorem Sta.fSet {K : PySem.W.Frag} {io : Io} {F : Hp} {S : Sto} {H : Hp} {o d : Vl} {vo v : V} {C D : Type} {R' : Io → Hp → C → D → Prop} {g : Unit → Sto → Res C} {Q : D → Hp → Prop} {E : XK} (st : Sta K io F S H) (ro : RepV K io F o vo) (rv : RepV K io F d v)
    (h : RG K R' ((Mir.fSet c f o d S).bind g) io F H Q E) : ∃ a dx fs, vo = .ref a ∧ H a = some (.ins (He.ga K c) dx fs) ∧ fs.length < 1000 ∧ ∃ S' F', Nxt io F H io F' (upd H a (.ins (He.ga K c) dx (putF f v fs))) ∧ Sta K io F' S' (upd H a (.ins (He.ga K c) dx (putF f v fs))) ∧ RG K R' (g () S') io F' (upd H a (.ins (He.ga K c) dx (putF f v fs))) Q E := by
  cases o with
  | p x => exact h.elim
  | c k =>
    obtain ⟨a, ha, rfl⟩ := ro
    unfold Mir.fSet at h
    dsimp only at h
    cases d with
    | p x =>
      obtain ⟨dx, fs, h1, h2, S', n2, s2, h3⟩ := st.putC ha rv (fun j z => nomatch z) h
      exact ⟨a, dx, fs, rfl, h1, h2, S', F, n2, s2, h3⟩
    | c j =>
      dsimp only at h
      by_cases q : j < k
      · rw [if_pos q] at h
        obtain ⟨dx, fs, h1, h2, S', n2, s2, h3⟩ := st.putC ha rv (fun i z => by cases z; exact q) h
        exact ⟨a, dx, fs, rfl, h1, h2, S', F, n2, s2, h3⟩
      · rw [if_neg q] at h
        have e : ((Mir.frz (.c j) S).bind fun x S1 => Mir.putC c f k (.p x) S1).bind g = (Mir.frz (.c j) S).bind fun x S1 => (Mir.putC c f k (.p x) S1).bind g := by cases Mir.frz (.c j) S <;> rfl
        rw [e] at h
        obtain ⟨x, S1, F1, n1, s1, rp, hz, h1⟩ := st.frz rv h
        obtain ⟨dx, fs, h1, h2, S', n2, s2, h3⟩ := s1.putC (d := .p x) ha rp (fun j z => nomatch z) h1
        exact ⟨a, dx, fs, rfl, h1, h2, S', F1, n1.trans n2, s2, h3⟩
def gFldT (K : PySem.W.Frag) (to : TE) (f : Str) : TG := fun v σ H Q => to σ H fun x H1 => ∃ a C dx fs, x = .ref a ∧ H1 a = some (.ins C dx fs) ∧ Cls K C ∧ NoAttr K C f ∧ fs.length < 1000 ∧ Q σ (upd H1 a (.ins C dx (putF f v fs)))
theorem pg_fld {to : TE} (ho : PE X o to) (ha : ∀ v, assign (.Attribute o f pos) X.env v = (do
      let ov ← holding [v] (eval o X.env)
      standAt pos.atName
      holding [v, ov] (setAttr ov f v)
      release [v, ov] []) := by intro _; rfl) : PG X (.Attribute o f pos) (gFldT X.K to f) := by
  refine ⟨fun pins s σ H v u Q I r h => ?_⟩
  rw [ha]
  refine wpAny_bind (wpAny_holding (thn (ho.run pins s σ H _ I h) fun ov s1 ⟨x, H1, I1, r1, a, C, dx, fs, e1, e2, hc, hn, hl, q1⟩ => ?_))
  subst e1
  obtain rfl : ov = Value.ref a := r1
  refine wpAny_bind (wpAny_standAt (wpAny_bind (wpAny_holding (setattr_ok I1 e2 hc hn hl r fun s2 I2 => ?_))))
  exact wpAny_release ⟨σ, _, I2, q1⟩
theorem og_fld (hc : Cls X.K (He.ga X.K c)) (hn : NoAttr X.K (He.ga X.K c) f) (ho : OE X W0 o mo) (ha : ∀ v, assign (.Attribute o f pos) X.env v = (do
      let ov ← holding [v] (eval o X.env)
      standAt pos.atName
      holding [v, ov] (setAttr ov f v)
      release [v, ov] []) := by intro _; rfl) : OG X W0 (.Attribute o f pos) [] (gFldM c f mo) := by
  obtain ⟨to, po, ho⟩ := ho
  refine ⟨_, pg_fld po ha, fun d v ρ S io F σ H Q st en rv h => ?_⟩
  refine ho ρ S io F σ H _ st en (RG.nox h fun d1 S1 io1 F1 H1 v1 e1 n1 s1 r1 h1 => ?_)
  obtain ⟨a, dx, fs, e2, e3, hl, S2, F2, n2, s2, h2⟩ := s1.fSet r1 (rv.mono n1.han n1.fr) h1
  exact ⟨a, _, dx, fs, e2, e3, hc, hn, hl, h2 io1 F2 _ σ Nxt.refl s2 ⟨en.nxt (n1.trans n2), agree_refl⟩⟩
end
structure GC (P : Program) (w : World) (K : PySem.W.Frag) (mg : Str → Option Value) (base : Heap) (x : Str) (params : Arguments) (ps : List Str) (k : Nat) (m : MF) : Prop where
  gl : mg x = some (.ref (He.ga K x))
  mkr : Mk K (He.ga K x) (He.ma K (He.ga K x) "__init__")
  fn : ∃ fd, FnG P w K mg base k (He.ma K (He.ga K x) "__init__") fd ps (spM K m) ∧ Binds K fd ps [] ∧ HasPar fd params
def endO (kp : Bool) (n : Nat) (r : Res Vl) : Res Vl := match r with
  | .ok (.p .non) S => (match kp with
    | true => .ok (.c n) S
    | false => (frz (.c n) S).bind fun y S1 => .ok (.p y) (S1.take n))
  | .exc c x S => .exc c x (S.take n)
  | _ => .bad
def mkO (kp : Bool) (c : Str) (m : MF) (ds : List Vl) (S : Sto) : Res Vl := endO kp S.length (m (.c S.length :: ds) (S ++ [.ins c [] []]))
section
variable {K : PySem.W.Frag} {io : Io} {F : Hp} {S : Sto} {H : Hp}
theorem Nxt.side {p : Addr} {o : HO} (hp : H p = none) : Nxt io F H io F (upd H p o) := by
  refine ⟨fun _ _ z => z, fun _ _ z => z, fun a o z _ => ?_, fun _ _ z => .inl z, fun a z => ?_, fun _ z => .inl z⟩
  · rw [upd_ne (ne_of_none z hp)]; exact z
  · by_cases q : a = p
    · subst q; exact hp
    · rw [upd_ne q] at z; exact z
theorem mkO_sp {kp : Bool} {c : Str} {m : MF} {ds : List Vl} {vs : List V} {Q : VK} {E : XK} (st : Sta K io F S H) (r : RepVs K io F ds vs) (h : RG K (RepA K) (mkO kp c m ds S) io F H Q E) (x dx : Addr) (hx : H x = none) (hd : H dx = none) (ne : dx ≠ x) :
    spM K m (.ref x :: vs) (upd (upd H dx (.own x)) x (.ins (He.ga K c) dx [])) (fun v H2 => v = .non ∧ Q (.ref x) H2) E := by
  have s1 := st.side (o := .own x) (st.notIn hd) (Same.free st.sub hd)
  have n1 : Nxt io F H io F (upd H dx (.own x)) := Nxt.side hd
  have hx1 : upd H dx (.own x) x = none := by rw [upd_ne (Ne.symm ne)]; exact hx
  have hi : (io ++ [some x])[S.length]? = some (some x) := by rw [← st.len]; simp
  have hF : F x = none := Same.free st.sub hx
  obtain ⟨s2, n2⟩ := s1.push (p := x) (o := .ins (He.ga K c) dx []) (c := .ins c [] []) hx1 ⟨x, dx, [], hi, hF, upd_same, rfl, rfl, fun j hm => by cases hm⟩
  have n12 := n1.trans n2
  refine ⟨io ++ [some x], F, S ++ [.ins c [] []], .c S.length :: ds, s2, ⟨_, _, rfl, ⟨x, hi, rfl⟩, r.mono n12.han n12.fr⟩, ?_⟩
  unfold mkO at h
  cases q : m (.c S.length :: ds) (S ++ [.ins c [] []]) with
  | bad => rw [q] at h; exact h.elim
  | exc c' d' S2 =>
    rw [q] at h
    exact fun io3 F3 H3 d n3 s3 xr => h (io3.take S.length) F3 H3 d ((n12.trans n3).cut st.len) (s3.cut _) xr
  | ok d S2 =>
    rw [q] at h
    intro io3 F3 H3 v n3 s3 rv
    cases d with
    | c k => exact h.elim
    | p y =>
      cases y with
      | non =>
        refine ⟨rv, ?_⟩
        cases kp with
        | true => exact h io3 F3 H3 (.ref x) (n12.trans n3) s3 ⟨x, n3.han _ _ hi, rfl⟩
        | false =>
          have h : RG K (RepA K) ((frz (.c S.length) S2).bind fun y S1 => .ok (.p y) (S1.take S.length)) io F H Q E := h
          obtain ⟨y, S4, F4, n4, s4, rp, hz, h4⟩ := s3.frz (d := .c S.length) (v := .ref x) ⟨x, n3.han _ _ hi, rfl⟩ (RG.step (n12.trans n3) h)
          rw [hz] at h
          exact h (io3.take S.length) F4 H3 (.ref x) (((n12.trans n3).trans n4).cut st.len) (s4.cut _) rp
      | _ => exact h.elim
end
def eMake (kp : Bool) (c : Str) (m : MF) (a : MA) : ME := fun ρ S => (a ρ S).bind fun ds S1 => mkO kp c m ds S1
section
variable {X : Cx} {W : WX} {e o : Expr} {es : List Expr} {mas mks : MA} {me mo : ME} {x f : Str} {p pos apos kpos : Pos} {params : Arguments} {ps ks : List Str} {k j n : Nat} {m : MF} {kws : List Keyword} {pm : List Nat} {kp : Bool}
theorem run_makeS {pins : List (Addr × Obj)} {σ : St} {H : Hp} {s : Shared} {Q : VK} {C f : Addr} {fd : FuncData} {sp : Sp} {E : St → XK} {us : List Value} {vs : List V} (M : Mk X.K C f) (F : FnG X.prog X.w X.K X.mg X.base k f fd ps sp) (hr : RoomG (k + 1) X.A) (hb : Binds X.K fd ps [])
    (hx : PassesAt (L2.CX X.prog X.w) X σ (E σ)) (I : Inv X pins σ H s) (r : Vals vs us)
    (h : ∀ x dx, H x = none → H dx = none → dx ≠ x → sp (.ref x :: vs) (upd (upd H dx (.own x)) x (.ins C dx [])) (fun v H2 => v = .non ∧ Q (.ref x) H2) (E σ)) :
    wpAny (model X.prog X.w) X.A (call (.ref C) us) (EP X pins σ Q) X.xe s := by
  have hq := h (s.heap.objs.size + 1) s.heap.objs.size (I.hok.fresh (Nat.le_succ _)) (I.hok.fresh (Nat.le_refl _)) (Nat.ne_of_lt (Nat.lt_succ_self _))
  have I2 := Inv.made (C := C) I
  have r2 : Vals (V.ref (s.heap.objs.size + 1) :: vs) (Value.ref (s.heap.objs.size + 1) :: us) := .cons rfl r
  have hl : (Value.ref (s.heap.objs.size + 1) :: us).length = ps.length := by
    have e := r2.length
    rw [F.len _ _ _ _ hq] at e
    exact e.symm
  have hb2 := hb { s with heap := (s.heap.push PySem.W.emptyDict).push (PySem.W.instObj C s.heap.objs.size) } (Value.ref (s.heap.objs.size + 1) :: us) I2.kIn (by rw [List.append_nil]; exact hl)
  rw [List.append_nil] at hb2
  refine wpAny_call (make_map (f := f) I.kIn M.makes M.init (beq_iff_eq.mp M.fn) (codeAny_mono (F.run _ X.stack _ _ ⟨Value.ref (s.heap.objs.size + 1) :: us, []⟩ (Value.ref (s.heap.objs.size + 1) :: us) _ _ (E σ) (hr.make C us [])
    (I2.env0.make C us []) hb2 r2 hq) fun r s' hq' => ?_))
  cases r with
  | error e => exact hx pins _ _ e s' I2 hq'
  | ok fl =>
    cases fl with
    | ret u =>
      obtain ⟨v, H', I3, rv, ev, q3⟩ := I2.after hq'
      subst ev
      exact ⟨rv, ⟨V.ref (s.heap.objs.size + 1), H', I3, rfl, q3⟩⟩
    | next => exact False.elim hq'
    | brk => exact False.elim hq'
    | cont => exact False.elim hq'
theorem oe_make (kp : Bool) (G : GC X.prog X.w X.K X.mg X.base x params ps k m) (hr : RoomG j X.A) (hk : k + 1 ≤ j) (tk : Takes X W) (ha : OA X W (e :: es) mas) (hg : Gl X x := by rfl)
    (hdb : (x == ("__debug__" : Str)) = false := by decide) (he : starEach (e :: es) X.env = (false, eval e X.env) :: starEach es X.env := by rfl) (hpl : (backTo pos (starEach es X.env)).any (·.1) = false := by rfl) :
    OE X W (.Call (.Name x p) (e :: es) [] pos) (eMake kp x m mas) := by
  obtain ⟨fd, F, hb, _⟩ := G.fn
  obtain ⟨t, q, ha⟩ := ha
  refine ⟨fun σ H Q => t σ H fun vs H1 => ∀ y dx, H1 y = none → H1 dx = none → dx ≠ y → spM X.K m (.ref y :: vs) (upd (upd H1 dx (.own y)) y (.ins (He.ga X.K x) dx [])) (fun v H2 => v = .non ∧ Q (.ref y) H2) (WE W σ), ⟨fun pins s σ H Q I h => ?_⟩, fun ρ S io F σ H Q st en h => ?_⟩
  · refine wpAny_Call_Name_kw (ld_glob I hg G.gl ?_ hdb)
    refine PySem.W.callWith_K (h₀ := X.base) I.ok.mod.kin G.mkr.kp (thn (q.run pos pins s σ H _ I h) fun us s1 ⟨vs, H1, I1, r, qq⟩ => ⟨I1.kIn, ?_⟩) he hpl
    exact run_makeS (E := WE W) G.mkr F (hr.mono hk) hb (passAt tk σ) I1 r qq
  · refine ha ρ S io F σ H _ st en (RG.bind h fun ds S1 io1 F1 H1 vs e1 n1 s1 r1 h1 => ?_)
    exact fun y dx hy hd ne => mkO_sp s1 r1 h1 y dx hy hd ne
structure GM (P : Program) (w : World) (K : PySem.W.Frag) (mg : Str → Option Value) (base : Heap) (x f : Str) (params : Arguments) (ps : List Str) (k : Nat) (m : MF) : Prop where
  cls : Cls K (He.ga K x)
  me : Meth K (He.ga K x) f (He.ma K (He.ga K x) f)
  fn : ∃ fd, FnG P w K mg base k (He.ma K (He.ga K x) f) fd ps (spM K m) ∧ Binds K fd ps [] ∧ HasPar fd params
def isO (c f : Str) (S : Sto) : Vl → Bool
  | .p (.obj c' ns _) => decide (c' = c) && decide (f ∉ ns)
  | .c k => (match S[k]? with
    | some (.ins c' ns _) => decide (c' = c) && decide (f ∉ ns)
    | _ => false)
  | _ => false
theorem Sta.isO {K : PySem.W.Frag} {io : Io} {F : Hp} {S : Sto} {H : Hp} {c f : Str} {d : Vl} {v : V} (st : Sta K io F S H) (r : RepV K io F d v) (h : Mir.isO c f S d = true) : ∃ a dx fs, v = .ref a ∧ H a = some (.ins (He.ga K c) dx fs) ∧ fs.lookup f = none := by
  cases d with
  | p x =>
    cases x with
    | obj c' ns xs =>
      have h : (decide (c' = c) && decide (f ∉ ns)) = true := h
      rw [Bool.and_eq_true, decide_eq_true_eq, decide_eq_true_eq] at h
      obtain ⟨rfl, hf⟩ := h
      obtain ⟨a, dx, gs, rfl, ha, hg, hr⟩ := r
      exact ⟨a, dx, gs, rfl, st.sub _ _ ha, fld_none hg hf⟩
    | _ => cases h
  | c k =>
    unfold Mir.isO at h
    dsimp only at h
    split at h
    · rename_i c' ns xs hk
      rw [Bool.and_eq_true, decide_eq_true_eq, decide_eq_true_eq] at h
      obtain ⟨rfl, hf⟩ := h
      obtain ⟨a, ha, rfl⟩ := r
      obtain ⟨b, dx, gs, hb, hF, hH, hg, hr, _⟩ := st.cel k _ hk
      rw [ha] at hb; cases hb
      exact ⟨a, dx, gs, rfl, hH, fld_none hg hf⟩
    · cases h
def eMeth (c f : Str) (m : MF) (o : ME) (a : MA) : ME := fun ρ S => (o ρ S).bind fun d S1 => if isO c f S1 (nv S1 d) then (a ρ S1).bind fun ds S2 => m (d :: ds) S2 else .bad
def eMethK (c f : Str) (m : MF) (n kl : Nat) (pm : List Nat) (o : ME) (a b : MA) : ME := fun ρ S => (o ρ S).bind fun d S1 => if isO c f S1 (nv S1 d) then (a ρ S1).bind fun ds S2 => (b ρ S2).bind fun zs S3 => if ds.length = n ∧ zs.length = kl then m (permL (.p .non) pm (d :: ds ++ zs)) S3 else .bad else .bad
theorem oe_meth {pl : Sem Bool} (G : GM X.prog X.w X.K X.mg X.base x f params ps k m) (hr : RoomG j X.A) (hk : k ≤ j) (tk : Takes X W) (ho : OE X W o mo) (ha : OA X W (e :: es) mas)
    (hst : starEach (e :: es) X.env = (false, eval e X.env) :: starEach es X.env := by rfl) (hpl : (backTo pos (starEach es X.env)).any (·.1) = false := by rfl)
    (ht : eval (.Call (.Attribute o f apos) (e :: es) [] pos) X.env = (do
      let ov ← eval o X.env
      standAt apos.atName
      let (f, first) ← holding [ov] (getMethod ov f pl)
      callWith pos f first (backTo pos (starEach (e :: es) X.env)) (backToKw pos (keywordEach [] X.env))) := by rfl) :
    OE X W (.Call (.Attribute o f apos) (e :: es) [] pos) (eMeth x f m mo mas) := by
  obtain ⟨fd, F, hb, _⟩ := G.fn
  obtain ⟨u, p, ho⟩ := ho
  obtain ⟨t, q, ha⟩ := ha
  refine ⟨fun σ H Q => u σ H fun y H1 => ∃ a dx fs, y = .ref a ∧ H1 a = some (.ins (He.ga X.K x) dx fs) ∧ fs.lookup f = none ∧ t σ H1 fun vs H2 => spM X.K m (y :: vs) H2 Q (WE W σ), ⟨fun pins s σ H Q I h => ?_⟩, fun ρ S io F σ H Q st en h => ?_⟩
  · refine PySem.W.methodCall_KW (pl := pl) (thn (p.run pins s σ H _ I h) fun v s1 ⟨y, H1, I1, rx, a, dx, fs, ex, ea, l, qq⟩ => ?_) ht
    subst ex
    obtain rfl : v = Value.ref a := rx
    refine getmeth_ok I1 ea G.cls G.me l ?_
    refine PySem.W.callWith_K (first := [.ref a]) (h₀ := X.base) I.ok.mod.kin G.me.kp (thn (q.run pos pins s1 σ H1 _ I1 qq) fun us s2 ⟨vs, H2, I2, r, q2⟩ => ⟨I2.kIn, ?_⟩) hst hpl
    exact run_fnG (E := WE W) (us := .ref a :: us) (vs := .ref a :: vs) F (hr.mono hk) hb (passAt tk σ) I2 (.cons rfl r) q2
  · refine ho ρ S io F σ H _ st en (RG.bind h fun d S1 io1 F1 H1 v e1 n1 s1 r1 h1 => ?_)
    by_cases hq : isO x f S1 (nv S1 d) = true
    · rw [if_pos hq] at h1
      obtain ⟨a, dx, fs, e2, e3, e4⟩ := s1.isO (s1.nv r1) hq
      refine ⟨a, dx, fs, e2, e3, e4, ?_⟩
      refine ha ρ S1 io1 F1 σ H1 _ s1 (en.nxt n1) (RG.bind h1 fun ds S2 io2 F2 H2 vs e5 n2 s2 r2 h2 => ?_)
      exact ⟨io2, F2, S2, d :: ds, s2, ⟨v, vs, rfl, r1.mono n2.han n2.fr, r2⟩, h2⟩
    · rw [if_neg hq] at h1; exact h1.elim
def isC (c : Str) (S : Sto) : Vl → Bool
  | .p (.obj c' _ _) => decide (c' = c)
  | .c k => (match S[k]? with
    | some (.ins c' _ _) => decide (c' = c)
    | _ => false)
  | _ => false
theorem Sta.isC {K : PySem.W.Frag} {io : Io} {F : Hp} {S : Sto} {H : Hp} {c : Str} {d : Vl} {v : V} (st : Sta K io F S H) (r : RepV K io F d v) (h : Mir.isC c S d = true) : ∃ a dx fs, v = .ref a ∧ H a = some (.ins (He.ga K c) dx fs) := by
  cases d with
  | p x =>
    cases x with
    | obj c' ns xs =>
      have h : decide (c' = c) = true := h
      rw [decide_eq_true_eq] at h
      subst h
      obtain ⟨a, dx, gs, rfl, ha, hg, hr⟩ := r
      exact ⟨a, dx, gs, rfl, st.sub _ _ ha⟩
    | _ => cases h
  | c k =>
    unfold Mir.isC at h
    dsimp only at h
    split at h
    · rename_i c' ns xs hk
      rw [decide_eq_true_eq] at h
      subst h
      obtain ⟨a, ha, rfl⟩ := r
      obtain ⟨b, dx, gs, hb, hF, hH, hg, hr, _⟩ := st.cel k _ hk
      rw [ha] at hb; cases hb
      exact ⟨a, dx, gs, rfl, hH⟩
    · cases h
def eProp (c : Str) (m : MF) (o : ME) : ME := fun ρ S => (o ρ S).bind fun d S1 => if isC c S1 (nv S1 d) then (m [d] S1).nox else .bad
end
end Mir

namespace Mir
open PySem L2
theorem repl_ints {K : PySem.W.Frag} {F : Hp} : ∀ ns : List Int, RepL K F (ns.map P.int) (ns.map V.int)
  | [] => .nil
  | _ :: ns => .cons rfl (repl_ints ns)
structure DefM where
  ad : PySem.W.Frag → Addr
  name : Str
  qual : Str
  params : Arguments
  body : List Stmt
  scope : Scope
def fnM (K : PySem.W.Frag) (a : Addr) : He.FnW := match K.lookup a with
  | some ⟨_, _, .func fd, _⟩ => some (fd.name, fd.qualname, fd.params, fd.body, fd.scope, fd.globals, fd.closure, fd.builtins)
  | _ => none
def DefM.val (d : DefM) : He.FnW := some (d.name, d.qual, d.params, .stmts d.body, d.scope, mainGlobals, [], builtinsNs)
def DefM.ok (K : PySem.W.Frag) (d : DefM) : Bool := PySem.W.keepIn K (.ref (d.ad K)) && (match K.lookup (d.ad K) with
  | some ⟨_, _, .func fd, _⟩ => PySem.W.codeIn K fd.code d.qual && He.dflB K fd.defaults []
  | _ => false)
theorem DefM.funD {K : PySem.W.Frag} {d : DefM} (e : fnM K (d.ad K) = d.val) (c : d.ok K = true) : ∃ fd, FunD K d.name d.qual d.params d.body d.scope [] [] (d.ad K) fd := by
  unfold DefM.ok at c
  rw [Bool.and_eq_true] at c
  obtain ⟨hk, c⟩ := c
  unfold fnM at e
  cases q : K.lookup (d.ad K) with
  | none => rw [q] at c; cases c
  | some o =>
    obtain ⟨oc, od, dt, osl⟩ := o
    rw [q] at c e
    cases dt with
    | func fd =>
      obtain ⟨n1, n2, n3, n4, n5, n6, n7, n8, n9, n10, n11, n12, n13, n14, n15⟩ := fd
      have e2 : (some (n1, n2, n3, n4, n5, n6, n7, n15) : He.FnW) = some (d.name, d.qual, d.params, .stmts d.body, d.scope, mainGlobals, [], builtinsNs) := e
      simp only [Option.some.injEq, Prod.mk.injEq] at e2
      obtain ⟨h1, h2, h3, h4, h5, h6, h7, h9⟩ := e2
      subst h1 h2 h3 h4 h5 h6 h7 h9
      dsimp only at c
      rw [Bool.and_eq_true] at c
      exact ⟨_, ⟨oc, od, _, _, _, _, _, _, _, osl, rfl, q, c.1, He.dflB_ok c.2, .inl rfl⟩, hk⟩
    | _ => cases c
abbrev AlM : Type := Bool × List He.FnW
def obsM (ck : PySem.W.Frag → Bool) (fn : List DefM) (K : PySem.W.Frag) : AlM := (ck K && fn.all fun d => d.ok K, fn.map fun d => fnM K (d.ad K))
def valM (fn : List DefM) : AlM := (true, fn.map DefM.val)
def SaysM (ck : PySem.W.Frag → Bool) (fn : List DefM) (K : PySem.W.Frag) : Prop := obsM ck fn K = valM fn
def hasX (m a : Nat) : Bool := Nat.beq (Nat.land (Nat.shiftRight m a) 1) 1
def addX : List Addr → Nat → List Addr → List Addr × Nat
  | [], m, acc => (acc.reverse, m)
  | a :: l, m, acc => match hasX m a with
    | true => addX l m acc
    | false => addX l (Nat.lor m (Nat.shiftLeft 1 a)) (a :: acc)
def refsX (g : Addr → Option Obj) (a : Addr) : List Addr := match g a with
  | some o => He.refsD o
  | none => []
def bfsX (g : Addr → Option Obj) : Nat → List Addr → Nat → List Addr
  | 0, fr, _ => fr
  | n + 1, fr, m => match addX (fr.flatMap (refsX g)) m [] with
    | (nw, m2) => fr ++ bfsX g n nw m2
def asX (g : Addr → Option Obj) (n : Nat) : List Addr := bfsX g n [mainGlobals] (Nat.shiftLeft 1 mainGlobals)
section
variable {ck : PySem.W.Frag → Bool} {fn : List DefM} {K : PySem.W.Frag}
theorem SaysM.chk (c : SaysM ck fn K) : ck K = true := (He.ba (show (ck K && fn.all fun d => d.ok K) = true from congrArg (fun z : AlM => z.1) c)).1
theorem SaysM.def_ (c : SaysM ck fn K) (i : Nat) {d : DefM} (h : fn[i]? = some d := by rfl) : ∃ fd, FunD K d.name d.qual d.params d.body d.scope [] [] (d.ad K) fd := by
  have c2 := (He.ba (show (ck K && fn.all fun d => d.ok K) = true from congrArg (fun z : AlM => z.1) c)).2
  have e : fn.map (fun d => fnM K (d.ad K)) = fn.map DefM.val := congrArg (fun z : AlM => z.2) c
  have e2 : (fn.map fun d => fnM K (d.ad K))[i]? = (fn.map DefM.val)[i]? := by rw [e]
  rw [List.getElem?_map, List.getElem?_map, h] at e2
  exact DefM.funD (Option.some.inj e2) (List.all_eq_true.mp c2 d (List.mem_of_getElem? h))
end
def pa (K : PySem.W.Frag) (C f : Str) : Addr := He.ma K (He.ga K C) f
def pg (K : PySem.W.Frag) (C f : Str) : Addr := match PySem.W.recIn K (pa K C f) "property" with
  | some (.ref g :: _) => g
  | _ => 0
inductive Tg where
  | b (n : String) | o (c : Str)
def tgOf (S : Sto) : Vl → Option Tg
  | .p .non => some (.b "NoneType")
  | .p (.bl _) => some (.b "bool")
  | .p (.int _) => some (.b "int")
  | .p (.str _) => some (.b "str")
  | .p (.tup _) => some (.b "tuple")
  | .p (.lst _) => some (.b "list")
  | .p (.dct _ _) => some (.b "dict")
  | .p (.obj c _ _) => some (.o c)
  | .c k => (match S[k]? with
    | some (.lst _) => some (.b "list")
    | some (.lsv _) => some (.b "list")
    | some (.dct _ _) => some (.b "dict")
    | some (.ins c _ _) => some (.o c)
    | _ => none)
  | _ => none
def comTy : List String := ["NoneType", "bool", "int", "str", "tuple", "list", "dict"]
def isB (a n : String) : Option Bool := if a = n ∧ a ∈ comTy then some true else if a = "bool" ∧ n = "int" then some true else if a ∈ comTy ∧ n ∈ comTy ∧ a ≠ n then some false else none
theorem isB_ok {K : PySem.W.Frag} {a n : String} {b : Bool} (h : isB a n = some b) : PySem.W.kitOne K (.type a) (.type n) = some b := by
  refine kit_ty ?_
  unfold isB at h
  have key : ∀ a ∈ comTy, ∀ n ∈ comTy, kitB a n = some (a == n || (a == "bool" && n == "int")) := by decide +kernel
  split at h
  · rename_i q
    cases h
    rw [key a q.2 n (by rw [← q.1]; exact q.2), q.1]
    simp
  · split at h
    · rename_i q
      cases h
      rw [q.1, q.2]
      decide +kernel
    · rename_i q1 q2
      split at h
      · rename_i q
        cases h
        rw [key a q.1 n q.2.1]
        have : (a == n) = false := beq_eq_false_iff_ne.mpr q.2.2
        rw [this]
        have : (a == "bool" && n == "int") = false := by
          rw [Bool.eq_false_iff]
          intro z
          rw [Bool.and_eq_true, beq_iff_eq, beq_iff_eq] at z
          exact q2 z
        rw [this]
        rfl
      · cases h
structure IsiC (K : PySem.W.Frag) (cs : List Str) : Prop where
  cls : ∀ c ∈ cs, Cls K (He.ga K c) ∧ PySem.W.findIn K (.ref (He.ga K c)) "__class__" = some (some (.builtin "object.__class__")) ∧ PySem.W.specialIn K (.builtin "object.__class__") "__get__" = some (some (.builtin "getset_descriptor.__get__")) ∧
    PySem.W.takesIn K (.builtin "object.__class__") = some true ∧ PySem.W.mroIn K (He.ga K c) (.type "object") = some true
  up : ∀ c ∈ cs, ∀ n ∈ comTy, PySem.W.kitOne K (.ref (He.ga K c)) (.type n) = some false
  dn : ∀ c ∈ cs, ∀ n ∈ comTy, PySem.W.kitOne K (.type n) (.ref (He.ga K c)) = some false
  ne : ∀ c ∈ cs, ∀ d ∈ cs, c ≠ d → PySem.W.kitOne K (.ref (He.ga K c)) (.ref (He.ga K d)) = some false
def isiB (K : PySem.W.Frag) (cs : List Str) : Bool := (cs.all fun c => (He.Fa.cls c).ok K && (He.eqO (PySem.W.findIn K (.ref (He.ga K c)) "__class__") (some (some (.builtin "object.__class__"))) && (He.eqO (PySem.W.specialIn K (.builtin "object.__class__") "__get__") (some (some (.builtin "getset_descriptor.__get__"))) &&
    (decide (PySem.W.takesIn K (.builtin "object.__class__") = some true) && decide (PySem.W.mroIn K (He.ga K c) (.type "object") = some true))))) &&
  ((cs.all fun c => comTy.all fun n => decide (PySem.W.kitOne K (.ref (He.ga K c)) (.type n) = some false)) && ((cs.all fun c => comTy.all fun n => decide (PySem.W.kitOne K (.type n) (.ref (He.ga K c)) = some false)) &&
    (cs.all fun c => cs.all fun d => decide (c = d) || decide (PySem.W.kitOne K (.ref (He.ga K c)) (.ref (He.ga K d)) = some false))))
theorem isiB_ok {K : PySem.W.Frag} {cs : List Str} (h : isiB K cs = true) : IsiC K cs := by
  unfold isiB at h
  obtain ⟨h1, h⟩ := He.ba h
  obtain ⟨h2, h⟩ := He.ba h
  obtain ⟨h3, h4⟩ := He.ba h
  rw [List.all_eq_true] at h1 h2 h3 h4
  refine ⟨fun c hc => ?_, fun c hc n hn => ?_, fun c hc n hn => ?_, fun c hc d hd ne => ?_⟩
  · obtain ⟨a, h⟩ := He.ba (h1 c hc)
    obtain ⟨b, h⟩ := He.ba h
    obtain ⟨c', h⟩ := He.ba h
    obtain ⟨d, e⟩ := He.ba h
    exact ⟨He.cls_ok a, He.eqO_ok b, He.eqO_ok c', of_decide_eq_true d, of_decide_eq_true e⟩
  · exact of_decide_eq_true (List.all_eq_true.mp (h2 c hc) n hn)
  · exact of_decide_eq_true (List.all_eq_true.mp (h3 c hc) n hn)
  · have z := List.all_eq_true.mp (h4 c hc) d hd
    rw [Bool.or_eq_true, decide_eq_true_eq, decide_eq_true_eq] at z
    rcases z with z | z
    · exact absurd z ne
    · exact z
def isT (cs : List Str) : Tg → P → Option Bool
  | .b a, .ty n => isB a n
  | .o c, .ty n => if c ∈ cs ∧ n ∈ comTy then some false else none
  | .b a, .glo x => if x ∈ cs ∧ a ∈ comTy then some false else none
  | .o c, .glo x => if c ∈ cs ∧ x ∈ cs then some (decide (c = x)) else none
  | _, _ => none
def eIsi (cs : List Str) (a b : ME) : ME := fun ρ S => (a ρ S).bind fun d S1 => (b ρ S1).bind fun q S2 => match tgOf S2 (nv S2 d), q with
  | some t, .p y => (match isT cs t y with
    | some r => .ok (.p (.bl r)) S2
    | none => .bad)
  | _, _ => .bad
def tgV (K : PySem.W.Frag) : Tg → Value
  | .b n => .type n
  | .o c => .ref (He.ga K c)
theorem Sta.tyx {K : PySem.W.Frag} {io : Io} {F : Hp} {S : Sto} {H : Hp} {cs : List Str} {d : Vl} {v : V} {t : Tg} (st : Sta K io F S H) (I : IsiC K cs) (r : RepV K io F d v) (h : tgOf S d = some t) (hc : ∀ c, t = .o c → c ∈ cs) : TyX K H v (tgV K t) := by
  have sq : ∀ {a : Addr} {vs : List V}, SqT K H a vs → TyX K H (.ref a) (.type "tuple") := fun {a vs} q => by
    rcases q with q | ⟨o, its, n, h1, h2, _⟩
    · rcases q with q | ⟨ob, q⟩
      · exact .base (.tup q)
      · exact .fTuple q
    · exact .kTuple h1 h2
  have ob : ∀ {a dx : Addr} {gs : List (Str × V)} {c : Str}, t = .o c → H a = some (.ins (He.ga K c) dx gs) → TyX K H (.ref a) (.ref (He.ga K c)) := fun {a dx gs c} e q => by
    obtain ⟨h1, h2, h3, h4, h5⟩ := I.cls c (hc c e)
    exact .base (.ins q h1 h2 h3 h4 h5)
  cases d with
  | p x =>
    cases x with
    | non => cases h; have r : v = _ := r; subst r; exact .base .non
    | bl y => cases h; have r : v = _ := r; subst r; exact .base (.bl _)
    | int y => cases h; have r : v = _ := r; subst r; exact .base (.int _)
    | str y => cases h; have r : v = _ := r; subst r; exact .base (.str _)
    | tup y => cases h; obtain ⟨a, vs, rfl, h1, _⟩ := r; exact sq (sqt_mono st.sub h1)
    | lst y => cases h; obtain ⟨a, vs, rfl, h1, _⟩ := r; exact .base (.lst (st.sub _ _ h1))
    | dct y z => cases h; obtain ⟨a, vs, rfl, h1, _⟩ := r; exact .base (.dK (st.sub _ _ h1))
    | obj c ns xs => cases h; obtain ⟨a, dx, gs, rfl, h1, _⟩ := r; exact ob rfl (st.sub _ _ h1)
    | ty _ => cases h
    | glo _ => cases h
    | raw _ => cases h
    | rwp _ _ => cases h
    | scr _ => cases h
  | c k =>
    unfold tgOf at h
    dsimp only at h
    obtain ⟨a, ha, rfl⟩ := r
    cases hk : S[k]? with
    | none => rw [hk] at h; cases h
    | some cc =>
      rw [hk] at h
      cases cc with
      | lst xs =>
        cases h
        obtain ⟨b, vs, hb, _, hH, _⟩ := st.cel k _ hk
        rw [ha] at hb; cases hb
        exact .base (.lst hH)
      | lsv xs =>
        cases h
        obtain ⟨b, vs, hb, _, hH, _⟩ := st.cel k _ hk
        rw [ha] at hb; cases hb
        exact .base (.lst hH)
      | dct ks xs =>
        cases h
        obtain ⟨b, vs, hb, _, hH, _⟩ := st.cel k _ hk
        rw [ha] at hb; cases hb
        exact .base (.dK hH)
      | ins c ns xs =>
        cases h
        obtain ⟨b, dx, gs, hb, _, hH, _⟩ := st.cel k _ hk
        rw [ha] at hb; cases hb
        exact ob rfl hH
      | fz _ => cases h
      | res => cases h
      | tup _ => cases h
      | dcT _ _ => cases h
      | dcN _ _ _ => cases h
      | tbl _ _ => cases h
      | dvs _ => cases h
      | tblC _ _ _ => cases h
      | tpz _ => cases h
section
variable {X : Cx} {W : WX} {a b e o : Expr} {ma mb mo : ME} {pos p : Pos}
theorem oe_isi {cs : List Str} (I : IsiC X.K cs) (hm : X.mg "isinstance" = none) (ha : OE X W a ma) (hb : OE X W b mb) (hg : Gl X "isinstance" := by rfl)
    (hs : starEach [a, b] X.env = (false, eval a X.env) :: starEach [b] X.env := by rfl) (hs2 : starEach [b] X.env = (false, eval b X.env) :: starEach [] X.env := by rfl) (hplain : (backTo pos (starEach [b] X.env)).any (·.1) = false := by rfl) :
    OE X W (.Call (.Name "isinstance" p) [a, b] [] pos) (eIsi cs ma mb) := by
  obtain ⟨t, q, ha⟩ := ha
  obtain ⟨u, q2, hb⟩ := hb
  refine ⟨_, pe_callB call_isi hg hm (by first | rfl | decide +kernel) (pa_cons q (pa_cons q2 pa_nil hs2) hs) (by decide) (by decide) hs hplain, fun ρ S io F σ H Q st en h => ?_⟩
  refine ha ρ S io F σ H _ st en (RG.bind h fun d S1 io1 F1 H1 v e1 n1 s1 r1 h1 => ?_)
  refine hb ρ S1 io1 F1 σ H1 _ s1 (en.nxt n1) (RG.bind h1 fun d2 S2 io2 F2 H2 v2 e2 n2 s2 r2 h2 => ?_)
  replace r1 := s2.nv (r1.mono n2.han n2.fr)
  generalize nv S2 d = d at r1 h2
  split at h2
  · rename_i t y ht
    cases hr : isT cs t y with
    | none => rw [hr] at h2; exact h2.elim
    | some r =>
      rw [hr] at h2
      have fin : Q (.bl r) H2 := h2 io2 F2 H2 (.bl r) Nxt.refl s2 rfl
      cases t with
      | b nm =>
        cases y with
        | ty n =>
          have r2 : v2 = _ := r2
          subst r2
          exact ⟨v, .ty n, _, _, r, rfl, .ty n, s2.tyx I r1 ht (fun c z => nomatch z), isB_ok hr, fin⟩
        | glo x =>
          have r2 : v2 = _ := r2
          subst r2
          have hr : (if x ∈ cs ∧ nm ∈ comTy then some false else none) = some r := hr
          split at hr
          · rename_i z
            cases hr
            exact ⟨v, .ref _, _, _, false, rfl, .own _, s2.tyx I r1 ht (fun c z => nomatch z), I.dn x z.1 nm z.2, fin⟩
          · cases hr
        | _ => cases hr
      | o c =>
        cases y with
        | ty n =>
          have r2 : v2 = _ := r2
          subst r2
          have hr : (if c ∈ cs ∧ n ∈ comTy then some false else none) = some r := hr
          split at hr
          · rename_i z
            cases hr
            exact ⟨v, .ty n, _, _, false, rfl, .ty n, s2.tyx I r1 ht (fun c' e => by cases e; exact z.1), I.up c z.1 n z.2, fin⟩
          · cases hr
        | glo x =>
          have r2 : v2 = _ := r2
          subst r2
          have hr : (if c ∈ cs ∧ x ∈ cs then some (decide (c = x)) else none) = some r := hr
          split at hr
          · rename_i z
            cases hr
            refine ⟨v, .ref _, _, _, _, rfl, .own _, s2.tyx I r1 ht (fun c' e => by cases e; exact z.1), ?_, fin⟩
            by_cases q : c = x
            · subst q
              rw [decide_eq_true rfl]
              show (if (Value.ref (He.ga X.K c) == Value.ref (He.ga X.K c)) = true then some true else _) = _
              rw [if_pos (by simp)]
            · rw [decide_eq_false q]
              exact I.ne c z.1 x z.2 q
          · cases hr
        | _ => cases hr
  · exact h2.elim
end
end Mir

namespace Mir
open PySem L2
def reprP (x : P) : List Nat := x.toD.shown.cps.toList
def pRepr : List P → Option P
  | [.lst xs] => if (P.lst xs).dat 60 && (P.lst xs).toD.showable && decide ((reprP (.lst xs)).length ≤ 100000) then some (.str (reprP (.lst xs))) else none
  | [.tup xs] => if (P.tup xs).dat 60 && (P.tup xs).toD.showable && decide ((reprP (.tup xs)).length ≤ 100000) then some (.str (reprP (.tup xs))) else none
  | _ => none
section
variable {X : Cx} {W : WX} {a b e o : Expr} {ma mb mo : ME} {pos p : Pos} {k : Nat}
end
def kOf : P → Option Key
  | .int i => some (.inl i)
  | .str x => some (.inr (strOf x))
  | _ => none
def keq : P → P → Bool
  | .int i, .int j => i == j
  | .str x, .str y => x == y
  | _, _ => false
def dRep (k v : P) : List P → List P → List P
  | a :: ks, b :: vs => (if keq a k then v else b) :: dRep k v ks vs
  | _, _ => []
def dPutK (k : P) (ks : List P) : List P := if ks.any fun a => keq a k then ks else ks ++ [k]
def dPutV (k v : P) (ks vs : List P) : List P := if ks.any fun a => keq a k then dRep k v ks vs else vs ++ [v]
section
variable {K : PySem.W.Frag} {F : Hp}
theorem keq_dec {a k : P} {q kk : Key} (r : Rep K F a (kV q)) (h : kOf k = some kk) : keq a k = decide (q = kk) := by
  cases k with
  | int j =>
    cases h
    cases q with
    | inl i =>
      cases a with
      | int l =>
        have r : V.int i = V.int l := r
        cases r
        show (i == j) = _
        rw [Bool.eq_iff_iff]; simp
      | tup _ => obtain ⟨_, _, e, _⟩ := r; cases e
      | lst _ => obtain ⟨_, _, e, _⟩ := r; cases e
      | scr _ => obtain ⟨_, _, e, _⟩ := r; cases e
      | dct _ _ => obtain ⟨_, _, e, _⟩ := r; cases e
      | obj _ _ _ => obtain ⟨_, _, _, e, _⟩ := r; cases e
      | rwp _ _ => obtain ⟨_, _, _, e, _⟩ := r; cases e
      | _ => cases r
    | inr x =>
      cases a with
      | int l => cases r
      | str y => rfl
      | tup _ => obtain ⟨_, _, e, _⟩ := r; cases e
      | lst _ => obtain ⟨_, _, e, _⟩ := r; cases e
      | scr _ => obtain ⟨_, _, e, _⟩ := r; cases e
      | dct _ _ => obtain ⟨_, _, e, _⟩ := r; cases e
      | obj _ _ _ => obtain ⟨_, _, _, e, _⟩ := r; cases e
      | rwp _ _ => obtain ⟨_, _, _, e, _⟩ := r; cases e
      | _ => cases r
  | str y =>
    cases h
    cases q with
    | inl i =>
      cases a with
      | int l => rfl
      | tup _ => obtain ⟨_, _, e, _⟩ := r; cases e
      | lst _ => obtain ⟨_, _, e, _⟩ := r; cases e
      | scr _ => obtain ⟨_, _, e, _⟩ := r; cases e
      | dct _ _ => obtain ⟨_, _, e, _⟩ := r; cases e
      | obj _ _ _ => obtain ⟨_, _, _, e, _⟩ := r; cases e
      | rwp _ _ => obtain ⟨_, _, _, e, _⟩ := r; cases e
      | _ => cases r
    | inr x =>
      cases a with
      | str z =>
        have r : V.str x = V.str (strOf z) := r
        cases r
        show (z == y) = decide (Sum.inr (strOf z) = Sum.inr (strOf y))
        rw [← strOf_beq, Bool.eq_iff_iff]; simp
      | tup _ => obtain ⟨_, _, e, _⟩ := r; cases e
      | lst _ => obtain ⟨_, _, e, _⟩ := r; cases e
      | scr _ => obtain ⟨_, _, e, _⟩ := r; cases e
      | dct _ _ => obtain ⟨_, _, e, _⟩ := r; cases e
      | obj _ _ _ => obtain ⟨_, _, _, e, _⟩ := r; cases e
      | rwp _ _ => obtain ⟨_, _, _, e, _⟩ := r; cases e
      | _ => cases r
  | _ => cases h
theorem kOf_rep {k : P} {kk : Key} (h : kOf k = some kk) : Rep K F k (kV kk) := by
  cases k <;> cases h <;> rfl
theorem rep_kOf {k : P} {kk : Key} {v : V} (h : kOf k = some kk) (r : Rep K F k v) : v = kV kk := by
  cases k with
  | int i => cases h; exact r
  | str x => cases h; exact r
  | _ => cases h
theorem any_keq {k : P} {kk : Key} (h : kOf k = some kk) : ∀ {ks : List P} {kvs : List (Key × V)}, RepL K F ks (kvs.map fun q => kV q.1) → (ks.any fun a => keq a k) = kvs.any fun kv => decide (kv.1 = kk)
  | [], [], r => rfl
  | [], _ :: _, r => by cases r
  | _ :: _, [], ⟨_, _, e, _⟩ => by cases e
  | a :: ks, q :: kvs, ⟨v, r, e, r1, r2⟩ => by
    cases e
    show (keq a k || ks.any fun a => keq a k) = (decide (q.1 = kk) || kvs.any fun kv => decide (kv.1 = kk))
    rw [keq_dec r1 h, any_keq h r2]
theorem dRep_rep {k x : P} {kk : Key} {v : V} (h : kOf k = some kk) (rv : Rep K F x v) : ∀ {ks xs : List P} {kvs : List (Key × V)}, RepL K F ks (kvs.map fun q => kV q.1) → RepL K F xs (kvs.map (·.2)) →
    RepL K F ks ((kvs.map fun kv => if kv.1 = kk then (kv.1, v) else kv).map fun q => kV q.1) ∧ RepL K F (dRep k x ks xs) ((kvs.map fun kv => if kv.1 = kk then (kv.1, v) else kv).map (·.2))
  | [], xs, [], r, s => ⟨.nil, by cases xs <;> exact .nil⟩
  | [], _, _ :: _, r, _ => by cases r
  | _ :: _, _, [], ⟨_, _, e, _⟩, _ => by cases e
  | a :: ks, [], q :: kvs, r, s => by cases s
  | a :: ks, b :: xs, q :: kvs, ⟨v1, r, e, r1, r2⟩, ⟨v2, s, e2, s1, s2⟩ => by
    cases e; cases e2
    obtain ⟨i1, i2⟩ := dRep_rep h rv r2 s2
    rw [List.map_cons, List.map_cons, List.map_cons]
    by_cases hq : q.1 = kk
    · rw [if_pos hq]
      refine ⟨⟨_, _, rfl, r1, i1⟩, ?_⟩
      show RepL K F ((if keq a k then x else b) :: dRep k x ks xs) _
      rw [keq_dec r1 h, decide_eq_true hq]
      exact ⟨_, _, rfl, rv, i2⟩
    · rw [if_neg hq]
      refine ⟨⟨_, _, rfl, r1, i1⟩, ?_⟩
      show RepL K F ((if keq a k then x else b) :: dRep k x ks xs) _
      rw [keq_dec r1 h, decide_eq_false hq]
      exact ⟨_, _, rfl, s1, i2⟩
theorem dPut_rep {k x : P} {kk : Key} {v : V} (h : kOf k = some kk) (rv : Rep K F x v) {ks xs : List P} {kvs : List (Key × V)} (r : RepL K F ks (kvs.map fun q => kV q.1)) (s : RepL K F xs (kvs.map (·.2))) :
    RepL K F (dPutK k ks) ((putK kvs kk v).map fun q => kV q.1) ∧ RepL K F (dPutV k x ks xs) ((putK kvs kk v).map (·.2)) := by
  unfold dPutK dPutV putK
  rw [any_keq h r]
  cases q : kvs.any fun kv => decide (kv.1 = kk) with
  | true => exact dRep_rep h rv r s
  | false =>
    rw [if_neg (by decide), if_neg (by decide), if_neg (by decide)]
    rw [List.map_append, List.map_append]
    exact ⟨r.append (.cons (kOf_rep h) .nil), s.append (.cons rv .nil)⟩
end
def mergeP : List P → List P → List P → Option (List P × List P)
  | [], ks, vs => some (ks, vs)
  | .tup [k, v] :: r, ks, vs => (match kOf k with
    | some _ => mergeP r (dPutK k ks) (dPutV k v ks vs)
    | none => none)
  | _, _, _ => none
def pDictP : List P → Option P
  | [.lst xs] => (mergeP xs [] []).map fun q => .dct q.1 q.2
  | _ => none
section
variable {K : PySem.W.Frag} {io : Io} {F : Hp} {S : Sto} {H : Hp}
theorem mergeP_rep (st : Same F H) : ∀ {rows ks vs ks' vs' : List P} {rv : List V} {kvs : List (Key × V)}, mergeP rows ks vs = some (ks', vs') → RepL K F rows rv → RepL K F ks (kvs.map fun q => kV q.1) → RepL K F vs (kvs.map (·.2)) →
    ∃ (ps : List Addr) (more : List (Key × V)), rv = ps.map V.ref ∧ Paired (fun p kv => SqT K H p [kV kv.1, kv.2]) ps more ∧ RepL K F ks' ((mergeK kvs more).map fun q => kV q.1) ∧ RepL K F vs' ((mergeK kvs more).map (·.2))
  | [], ks, vs, ks', vs', rv, kvs, e, r, r1, r2 => by
    cases e
    have r : _ = _ := r
    subst r
    exact ⟨[], [], rfl, .nil, r1, r2⟩
  | x :: rows, ks, vs, ks', vs', rv, kvs, e, ⟨v, r', e1, rx, rr⟩, r1, r2 => by
    subst e1
    match x, rx, e with
    | .tup [k, y], rx, e =>
      have e : (match kOf k with
        | some _ => mergeP rows (dPutK k ks) (dPutV k y ks vs)
        | none => none) = some (ks', vs') := e
      cases hk : kOf k with
      | none => rw [hk] at e; cases e
      | some kk =>
        rw [hk] at e
        obtain ⟨a, ws, rfl, ha, ⟨w1, t1, ew, q1, ⟨w2, t2, ew2, q2, q3⟩⟩⟩ := rx
        have q3 : t2 = [] := q3
        subst q3; subst ew2; subst ew
        have := rep_kOf hk q1
        subst this
        obtain ⟨i1, i2⟩ := dPut_rep hk q2 r1 r2
        obtain ⟨ps, more, e2, hp, j1, j2⟩ := mergeP_rep st e rr i1 i2
        exact ⟨a :: ps, (kk, w2) :: more, by rw [e2]; rfl, .cons (sqt_mono st ha) hp, j1, j2⟩
    | .tup [], _, e => cases e
    | .tup [_], _, e => cases e
    | .tup (_ :: _ :: _ :: _), _, e => cases e
    | .non, _, e => cases e
    | .bl _, _, e => cases e
    | .int _, _, e => cases e
    | .str _, _, e => cases e
    | .lst _, _, e => cases e
    | .dct _ _, _, e => cases e
    | .obj _ _ _, _, e => cases e
    | .ty _, _, e => cases e
    | .glo _, _, e => cases e
    | .raw _, _, e => cases e
    | .rwp _ _, _, e => cases e
    | .scr _, _, e => cases e
theorem ok_dictP : CallOk K (fun xs H Q => ∃ (a : Addr) (ps : List Addr) (kvs : List (Key × V)), xs = [.ref a] ∧ SqL K H a (ps.map V.ref) ∧ Paired (fun p kv => SqT K H p [kV kv.1, kv.2]) ps kvs ∧
    ∀ p, H p = none → Q (.ref p) (upd H p (.dK (mergeK [] kvs)))) pDictP := by
  intro io F S H xs vs z Q st rx e k
  unfold pDictP at e
  split at e
  · rename_i rows
    cases hm : mergeP rows [] [] with
    | none => rw [hm] at e; cases e
    | some q =>
      rw [hm] at e
      cases e
      obtain ⟨v, rfl, r⟩ := rx.one
      obtain ⟨a, rv, rfl, h1, h2⟩ := r
      obtain ⟨ps, more, e2, hp, j1, j2⟩ := mergeP_rep (kvs := []) st.sub hm h2 .nil .nil
      subst e2
      refine ⟨a, ps, more, rfl, SqL.of h1, hp, fun p hp => ?_⟩
      obtain ⟨s3, n3⟩ := st.froze (o := .dK (mergeK [] more)) hp
      exact k _ _ _ n3 s3 ⟨p, _, rfl, upd_same, RepL.mono n3.fr j1, RepL.mono n3.fr j2⟩
  · cases e
end
section
variable {X : Cx} {W : WX} {a b e o : Expr} {ma mb mo : ME} {pos p : Pos} {k : Nat}
theorem oe_dictP (hc : X.calm = true) (hm : X.mg "dict" = none) (ha : OE X W a ma) (hg : Gl X "dict" := by rfl) (hs : starEach [a] X.env = (false, eval a X.env) :: starEach [] X.env := by rfl) :
    OE X W (.Call (.Name "dict" p) [a] [] pos) (eCall pDictP (aCons ma aNil)) := oe_callTy (call_dictP hc) ok_dictP hm (by first | rfl | decide +kernel) (oa_cons ha oa_nil hs) hg (by decide) (by decide) hs rfl
end
end Mir

namespace Mir
open PySem L2
def rwpB (y z : List Nat) : List Value → Bool
  | [.str x t, .str w u] => decide (strOf y = x) && (decide (strOf z = w) && (decide (t ≠ 0) && (decide (u ≠ 0) && (decide (t ≠ u) && !(strOf y == strOf z)))))
  | _ => false
theorem rwpB_ok {y z : List Nat} : ∀ {l : List Value}, rwpB y z l = true → ∃ t u, l = [.str (strOf y) t, .str (strOf z) u] ∧ t ≠ 0 ∧ u ≠ 0 ∧ t ≠ u ∧ (strOf y == strOf z) = false
  | [.str x t, .str w u], h => by
    obtain ⟨h1, h⟩ := He.ba (show (decide (strOf y = x) && (decide (strOf z = w) && (decide (t ≠ 0) && (decide (u ≠ 0) && (decide (t ≠ u) && !(strOf y == strOf z)))))) = true from h)
    obtain ⟨h2, h⟩ := He.ba h
    obtain ⟨h3, h⟩ := He.ba h
    obtain ⟨h4, h⟩ := He.ba h
    obtain ⟨h5, h6⟩ := He.ba h
    have h1 := of_decide_eq_true h1
    have h2 := of_decide_eq_true h2
    subst h1 h2
    refine ⟨t, u, rfl, of_decide_eq_true h3, of_decide_eq_true h4, of_decide_eq_true h5, ?_⟩
    cases q : strOf y == strOf z with
    | false => rfl
    | true => rw [q] at h6; cases h6
mutual
def repK (K : PySem.W.Frag) : P → Value → Bool
  | .non, .none => true
  | .bl b, .bool c => b == c
  | .int i, .int j _ => decide (i = j)
  | .str x, .str y _ => decide (strOf x = y)
  | .ty n, .type m => decide (n = m)
  | .glo x, .ref a => decide (He.ga K x = a)
  | .tup xs, .ref a => (match K.lookup a with
    | some ⟨.type c, _, .seq its _, _⟩ => decide (c = "tuple") && (decide (its.size ≤ sizeLine) && repKs K xs its.toList)
    | _ => false)
  | .rwp y z, .ref a => (match K.lookup a with
    | some ⟨.type c, _, .seq its _, _⟩ => decide (c = "tuple") && rwpB y z its.toList
    | _ => false)
  | _, _ => false
def repKs (K : PySem.W.Frag) : List P → List Value → Bool
  | [], [] => true
  | x :: xs, u :: us => repK K x u && repKs K xs us
  | _, _ => false
end
section
variable {K : PySem.W.Frag}
mutual
theorem repK_ok : ∀ {x : P} {u : Value}, repK K x u = true → ∃ v, RelV v u ∧ ∀ F, Rep K F x v
  | .non, u, h => by
    cases u <;> first | exact ⟨.non, rfl, fun _ => rfl⟩ | cases h
  | .bl b, u, h => by
    cases u with
    | bool c =>
      have h : (b == c) = true := h
      rw [beq_iff_eq] at h
      subst h
      exact ⟨.bl b, rfl, fun _ => rfl⟩
    | _ => cases h
  | .int i, u, h => by
    cases u with
    | int j t =>
      have h : decide (i = j) = true := h
      rw [decide_eq_true_eq] at h
      subst h
      exact ⟨.int i, ⟨_, rfl⟩, fun _ => rfl⟩
    | _ => cases h
  | .str x, u, h => by
    cases u with
    | str y t =>
      have h : decide (strOf x = y) = true := h
      rw [decide_eq_true_eq] at h
      subst h
      exact ⟨.str (strOf x), ⟨_, rfl⟩, fun _ => rfl⟩
    | _ => cases h
  | .ty n, u, h => by
    cases u with
    | type m =>
      have h : decide (n = m) = true := h
      rw [decide_eq_true_eq] at h
      subst h
      exact ⟨.ty n, rfl, fun _ => rfl⟩
    | _ => cases h
  | .glo x, u, h => by
    cases u with
    | ref a =>
      have h : decide (He.ga K x = a) = true := h
      rw [decide_eq_true_eq] at h
      subst h
      exact ⟨.ref _, rfl, fun _ => rfl⟩
    | _ => cases h
  | .raw _, u, h => by cases u <;> cases h
  | .rwp y z, u, h => by
    cases u with
    | ref a =>
      have h : (match K.lookup a with
        | some ⟨.type c, _, .seq its _, _⟩ => decide (c = "tuple") && rwpB y z its.toList
        | _ => false) = true := h
      split at h
      · rename_i c od its n sl q
        obtain ⟨h1, h⟩ := He.ba h
        obtain ⟨t, u, e, q1, q2, q3, q4⟩ := rwpB_ok h
        refine ⟨.ref a, rfl, fun F => ⟨a, t, u, rfl, ⟨⟨_, n, .inr q, congrArg Value.type (of_decide_eq_true h1), ?_⟩, q1, q2, q3, q4⟩⟩⟩
        have e2 : its = #[.str (strOf y) t, .str (strOf z) u] := by rw [← Array.toArray_toList (xs := its), e]
        rw [e2]
      · cases h
    | _ => cases h
  | .tup xs, u, h => by
    cases u with
    | ref a =>
      have h : (match K.lookup a with
        | some ⟨.type c, _, .seq its _, _⟩ => decide (c = "tuple") && (decide (its.size ≤ sizeLine) && repKs K xs its.toList)
        | _ => false) = true := h
      split at h
      · rename_i c od its n sl q
        obtain ⟨h1, h⟩ := He.ba h
        obtain ⟨h2, h3⟩ := He.ba h
        obtain ⟨vs, r1, r2⟩ := repKs_ok h3
        exact ⟨.ref a, rfl, fun F => ⟨a, vs, rfl, .inr ⟨_, its, n, q, congrArg Value.type (of_decide_eq_true h1), rfl, of_decide_eq_true h2, r1⟩, r2 F⟩⟩
      · cases h
    | _ => cases h
  | .lst _, u, h => by cases u <;> cases h
  | .dct _ _, u, h => by cases u <;> cases h
  | .obj _ _ _, u, h => by cases u <;> cases h
  | .scr _, u, h => by cases u <;> cases h
theorem repKs_ok : ∀ {xs : List P} {us : List Value}, repKs K xs us = true → ∃ vs, Vals vs us ∧ ∀ F, RepL K F xs vs
  | [], [], h => ⟨[], .nil, fun _ => .nil⟩
  | [], _ :: _, h => by cases h
  | _ :: _, [], h => by cases h
  | x :: xs, u :: us, h => by
    obtain ⟨h1, h2⟩ := He.ba h
    obtain ⟨v, r1, r2⟩ := repK_ok h1
    obtain ⟨vs, r3, r4⟩ := repKs_ok h2
    exact ⟨v :: vs, .cons r1 r3, fun F => .cons (r2 F) (r4 F)⟩
end
def gloB (K : PySem.W.Frag) (x : Str) (p : P) : Bool := match PySem.W.nsIn K mainGlobals x with
  | some (some u) => repK K p u
  | _ => false
def GV (K : PySem.W.Frag) (mg : Str → Option Value) (x : Str) (p : P) : Prop := ∃ u v, mg x = some u ∧ RelV v u ∧ ∀ F, Rep K F p v
theorem gloB_ok {h : Heap} {mg : Str → Option Value} (X : K.In h) (G : h.Ns mainGlobals mg) {x : Str} {p : P} (c : gloB K x p = true) : GV K mg x p := by
  unfold gloB at c
  split at c
  · rename_i u e
    obtain ⟨v, r, hp⟩ := repK_ok c
    exact ⟨u, v, PySem.W.mg_of X G e, r, hp⟩
  · cases c
end
section
variable {X : Cx} {W : WX} {a b c e o : Expr} {ma mb mc mo : ME} {pos p : Pos} {k : Nat}
theorem oe_gV {x : Str} {q : P} (h : GV X.K X.mg x q) (hg : Gl X x := by rfl) (hd : (x == ("__debug__" : Str)) = false := by decide) : OE X W (.Name x pos) (eC q) := by
  obtain ⟨u, v, h1, h2, h3⟩ := h
  exact oe_glob h1 h2 h3 hg hd
theorem oe_gC {x : Str} (h : X.mg x = some (.ref (He.ga X.K x))) (hg : Gl X x := by rfl) (hd : (x == ("__debug__" : Str)) = false := by decide) : OE X W (.Name x pos) (eC (.glo x)) := oe_glob (v := .ref _) h rfl (fun _ => rfl) hg hd
theorem oe_bT {x : Str} {n : String} (hm : X.mg x = none) (hv : bootBuiltins x = some (.type n) := by first | rfl | decide +kernel) (hg : Gl X x := by rfl) (hn : x ≠ "__name__" := by decide) (hd : (x == ("__debug__" : Str)) = false := by decide) : OE X W (.Name x pos) (eC (.ty n)) := oe_bltn (v := .ty n) hm hv rfl (fun _ => rfl) hg hn hd
def eChn (f g : P → P → Option P) (a b c : ME) : ME := fun ρ S => (a ρ S).bind fun x S1 => (b ρ S1).bind fun y S2 => (op2 f x y S2).bind fun z S3 => match z with
  | .p (.bl true) => (c ρ S3).bind fun w S4 => op2 g y w S4
  | .p (.bl false) => .ok (.p (.bl false)) S3
  | _ => .bad
theorem BinOk.run {K : PySem.W.Frag} {io : Io} {F : Hp} {S : Sto} {H : Hp} {r : R2} {f : P → P → Option P} {d d2 : Vl} {v v2 : V} {C D : Type} {R' : Io → Hp → C → D → Prop} {g : Vl → Sto → Res C} {Q : D → Hp → Prop} {Q1 : VK} {E : XK} (hf : BinOk K r f) (st : Sta K io F S H) (r1 : RepV K io F d v) (r2 : RepV K io F d2 v2)
    (h : RG K R' ((op2 f d d2 S).bind g) io F H Q E) (k : ∀ z F' H' u, Nxt io F H io F' H' → Sta K io F' S H' → Rep K F' z u → RG K R' (g (.p z) S) io F' H' Q E → Q1 u H') : r v v2 H Q1 := by
  unfold op2 at h
  cases e1 : rd S d with
  | none => rw [e1] at h; exact h.elim
  | some x =>
    cases e2 : rd S d2 with
    | none => rw [e1, e2] at h; exact h.elim
    | some y =>
      rw [e1, e2] at h
      dsimp only at h
      cases e3 : f x y with
      | none => rw [e3] at h; exact h.elim
      | some z =>
        rw [e3] at h
        exact hf io F S H x y v v2 z Q1 st (st.rd r1 e1) (st.rd r2 e2) e3 fun F' H' u n s rp => k z F' H' u n s rp (RG.step n h)
theorem chn_go {op op' : CmpOp} {r r' : R2} {f g : P → P → Option P} {ta tb tc : TE} (hf : BinOk X.K r f) (hg : BinOk X.K r' g)
    (ha : ∀ (ρ : En) (S : Sto) (io : Io) (F : Hp) (σ : St) (H : Hp) (Q : VK), Sta X.K io F S H → Mir.Env X.K io F ρ σ → RG X.K (RepA X.K) (ma ρ S) io F H Q (fun c d H' => W c d σ H') → ta σ H Q)
    (hb : ∀ (ρ : En) (S : Sto) (io : Io) (F : Hp) (σ : St) (H : Hp) (Q : VK), Sta X.K io F S H → Mir.Env X.K io F ρ σ → RG X.K (RepA X.K) (mb ρ S) io F H Q (fun c d H' => W c d σ H') → tb σ H Q)
    (hc : ∀ (ρ : En) (S : Sto) (io : Io) (F : Hp) (σ : St) (H : Hp) (Q : VK), Sta X.K io F S H → Mir.Env X.K io F ρ σ → RG X.K (RepA X.K) (mc ρ S) io F H Q (fun c d H' => W c d σ H') → tc σ H Q)
    (ρ : En) (S : Sto) (io : Io) (F : Hp) (σ : St) (H : Hp) (Q : VK) (st : Sta X.K io F S H) (en : Mir.Env X.K io F ρ σ) (h : RG X.K (RepA X.K) (eChn f g ma mb mc ρ S) io F H Q (fun c d H' => W c d σ H')) : tChain r r' ta tb tc σ H Q := by
  refine ha ρ S io F σ H _ st en (RG.bind h fun d S1 io1 F1 H1 v e1 n1 s1 r1 h1 => ?_)
  refine hb ρ S1 io1 F1 σ H1 _ s1 (en.nxt n1) (RG.bind h1 fun d2 S2 io2 F2 H2 v2 e2 n2 s2 r2 h2 => ?_)
  refine BinOk.run hf s2 (r1.mono n2.han n2.fr) r2 h2 fun z F3 H3 u n3 s3 r3 h3 => ?_
  cases z with
  | bl q =>
    have r3 : u = .bl q := r3
    subst r3
    refine ⟨q, rfl, ?_⟩
    cases q with
    | true =>
      refine iteT ?_
      refine hc ρ S2 io2 F3 σ H3 _ s3 (en.nxt ((n1.trans n2).trans n3)) (RG.bind h3 fun d4 S4 io4 F4 H4 v4 e4 n4 s4 r4 h4 => ?_)
      exact s4.op2 hg (r2.mono (n3.trans n4).han (n3.trans n4).fr) r4 h4
    | false => exact iteF (h3 io2 F3 H3 (.bl false) Nxt.refl s3 rfl)
  | _ => exact h3.elim
theorem oe_chn {op op' : CmpOp} {r r' : R2} {f g : P → P → Option P} (ho : OpR X (compareOp op) r) (ho' : OpR X (compareOp op') r') (hf : BinOk X.K r f) (hg : BinOk X.K r' g) (ha : OE X W a ma) (hb : OE X W b mb) (hc : OE X W c mc) (hm : lastMarks [op, op'] [b, c] = false := by with_unfolding_all rfl) :
    OE X W (.Compare a [op, op'] [b, c] pos) (eChn f g ma mb mc) := by
  obtain ⟨ta, pa, ha⟩ := ha
  obtain ⟨tb, pb, hb⟩ := hb
  obtain ⟨tc, pc, hc⟩ := hc
  exact ⟨_, pe_chain ho ho' pa pb pc hm, chn_go (op := op) (op' := op') hf hg ha hb hc⟩
theorem ot_chn {op op' : CmpOp} {r r' : R2} {f g : P → P → Option P} (ho : OpR X (compareOp op) r) (ho' : OpR X (compareOp op') r') (hf : BinOk X.K r f) (hg : BinOk X.K r' g) (ha : OE X W a ma) (hb : OE X W b mb) (hc : OE X W c mc) (hm : lastMarks [op, op'] [b, c] = false := by with_unfolding_all rfl) :
    OT X W (.Compare a [op, op'] [b, c] pos) (tVal (eChn f g ma mb mc)) := by
  obtain ⟨ta, pa, ha⟩ := ha
  obtain ⟨tb, pb, hb⟩ := hb
  obtain ⟨tc, pc, hc⟩ := hc
  refine ⟨_, pt_chain ho ho' pa pb pc hm, fun ρ S io F σ H Q st en h => ?_⟩
  refine chn_go (op := op) (op' := op') hf hg ha hb hc ρ S io F σ H _ st en ?_
  exact RG.bind h fun d S1 io1 F1 H1 v e1 n1 s1 r1 h1 => tst_go s1 r1 h1
abbrev bLt : P → P → Option P := pIB fun i j => decide (i < j)
abbrev bLe : P → P → Option P := pIB fun i j => decide (i ≤ j)
theorem oe_lele (ha : OE X W a ma) (hb : OE X W b mb) (hc : OE X W c mc) : OE X W (.Compare a [.LtE, .LtE] [b, c] pos) (eChn bLe bLe ma mb mc) := oe_chn op_le op_le ok_B0 ok_B0 ha hb hc (nomark c)
theorem ot_lele (ha : OE X W a ma) (hb : OE X W b mb) (hc : OE X W c mc) : OT X W (.Compare a [.LtE, .LtE] [b, c] pos) (tVal (eChn bLe bLe ma mb mc)) := ot_chn op_le op_le ok_B0 ok_B0 ha hb hc (nomark c)
def sParG (n : Nat) (m : MA) (r : MGs) : MS := fun ρ S => (m ρ S).go ρ fun ds S1 => if ds.length = n ∧ n ≤ 100000 then ((r ds ρ S1).nox).go ρ fun ρ1 S2 => .ok (.nx ρ1) S2 else .bad
theorem os_parG {ts es : List Expr} {js : List Nat} {mas : MA} {r : MGs} {kt k2 n : Nat} {pt pt2 : Pos} (hc : X.calm = true) (ha : OA X W es mas) (hg : OGs X W0 ts js r) (hn : (assignEach ts X.env).length = n := by rfl) (hst : (assignEach ts X.env).findIdx? (·.1) = none := by rfl)
    (hs : swapsWithSole [.Tuple ts kt pt] (.Tuple es k2 pt2) pos.line X.env = pure false := by rfl) (hw : swappedStores [.Tuple ts kt pt] (.Tuple es k2 pt2) X.env = pure none := by rfl)
    (h1 : (assignEach [.Tuple ts kt pt] X.env).map (·.2) = [assign (.Tuple ts kt pt) X.env] := by rfl) : OS X W (.Assign [.Tuple ts kt pt] (.Tuple es k2 pt2) pos) (sParG n mas r) := by
  obtain ⟨t, p, ha⟩ := ha
  obtain ⟨u, q, hg⟩ := hg
  refine ⟨_, ps_asg (pe_tup p) (pg_tup hc q hn hst) hs hw h1, fun ρ S io F σ H D st en h => ?_⟩
  refine ha ρ S io F σ H _ st en (RS.go en h fun ds S1 io1 F1 H1 vs e1 n1 s1 r1 h2 => ?_)
  by_cases hq : ds.length = n ∧ n ≤ 100000
  · rw [if_pos hq] at h2
    have hl : vs.length = n := by rw [r1.length]; exact hq.1
    refine ⟨by rw [hl]; exact sz5 hq.2, fun p hp => ⟨p, vs, rfl, SqT.of upd_same, hl, ?_⟩⟩
    have s2 := s1.side (o := .tup vs) (s1.notIn hp) (Same.free s1.sub hp)
    have n2 : Nxt io1 F1 H1 io1 F1 (upd H1 p (.tup vs)) := Nxt.side hp
    refine hg ds vs ρ S1 io1 F1 σ _ _ s2 (en.nxt (n1.trans n2)) (r1.mono n2.han n2.fr) (RS.nox (RS.step n2 h2) fun ρ1 S2 io2 F2 H2 σ2 e2 n3 s3 r3 h3 => ?_)
    exact h3 io2 F2 H2 σ2 Nxt.refl s3 r3.1
  · rw [if_neg hq] at h2; exact h2.elim
def sPar3 (i j l : Nat) (a : MA) : MS := fun ρ S => (a ρ S).go ρ fun ds S1 => match ds with
  | [d, d2, d3] => .ok (.nx (((ρ.set i (some d)).set j (some d2)).set l (some d3))) S1
  | _ => .bad
theorem os_par3 {i j l : Nat} {x y z : Str} {mas : MA} {px py pz pt : Pos} {kt k2 pt2} (hc : X.calm = true) (hN : X.N.Nodup) (ha : OA X W [a, b, c] mas) (hi : X.N[i]? = some x := by rfl) (hj : X.N[j]? = some y := by rfl) (hl : X.N[l]? = some z := by rfl) (hij : i ≠ j := by decide) (hil : i ≠ l := by decide) (hjl : j ≠ l := by decide)
    (hx : X.env.scope.names.lookup x = some .local := by rfl) (hy : X.env.scope.names.lookup y = some .local := by rfl) (hz : X.env.scope.names.lookup z = some .local := by rfl)
    (hw : swappedStores [.Tuple [.Name x px, .Name y py, .Name z pz] kt pt] (.Tuple [a, b, c] k2 pt2) X.env = pure (some [x, y, z]) := by rfl)
    (hs : swapsWithSole [.Tuple [.Name x px, .Name y py, .Name z pz] kt pt] (.Tuple [a, b, c] k2 pt2) pos.line X.env = pure false := by rfl) :
    OS X W (.Assign [.Tuple [.Name x px, .Name y py, .Name z pz] kt pt] (.Tuple [a, b, c] k2 pt2) pos) (sPar3 i j l mas) := by
  obtain ⟨t, p, ha⟩ := ha
  refine ⟨_, ps_par3 hc hN hi hj hl hij hil hjl hx hy hz p hw hs, fun ρ S io F σ H D s en h => ?_⟩
  refine ha ρ S io F σ H _ s en (RS.go en h fun ds S1 io1 F1 H1 vs e1 n1 s1 r1 h1 => ?_)
  match ds, r1, h1 with
  | [d, d2, d3], ⟨v, w, e1, ra, ⟨v2, w2, e2, rb, ⟨v3, w3, e3, rc, e4⟩⟩⟩, h1 =>
    have e4 : w3 = [] := e4
    subst e4; subst e3; subst e2; subst e1
    exact ⟨v, v2, v3, rfl, h1 io1 F1 H1 _ Nxt.refl s1 ((((en.nxt n1).set ra i).set rb j).set rc l)⟩
  | [], _, h1 => exact h1.elim
  | [_], _, h1 => exact h1.elim
  | [_, _], _, h1 => exact h1.elim
  | _ :: _ :: _ :: _ :: _, _, h1 => exact h1.elim
end
end Mir

namespace Mir
open PySem L2
section
variable {K : PySem.W.Frag} {Q : VK} {E : XK}
end
section
variable {X : Cx} {W : WX} {elt tg iter : Expr} {ifs : List Expr} {scope : Scope} {own : List (Str × Nat)} {pos : Pos} {it : MI} {js : List Nat} {g : MG} {t : MT} {e : ME}
theorem os_setLcC {i : Nat} {y : Str} {py spos : Pos} (hc : X.calm = true) (hN : X.N.Nodup) (hi : OI X W tg iter it) (ok : BlkOk X.N X.env.scope scope own) (hj : ∀ j ∈ js, j ∈ own.map (·.2))
    (hg : ∀ (s : Shared) (H : Hp) (C : Addr) (cl : List (Str × Addr)) (fp : List Addr), OG (X.blk s H scope (compEnvC scope cl C X.env) fp) W0 tg js g) (ht : ∀ (s : Shared) (H : Hp) (C : Addr) (cl : List (Str × Addr)) (fp : List Addr), OTs (X.blk s H scope (compEnvC scope cl C X.env) fp) ifs t)
    (he : ∀ (s : Shared) (H : Hp) (C : Addr) (cl : List (Str × Addr)) (fp : List Addr), OE (X.blk s H scope (compEnvC scope cl C X.env) fp) W0 elt e) (hy : X.N[i]? = some y := by rfl) (hyl : X.env.scope.names.lookup y = some .local := by rfl)
    (hsw : swapsWith (.ListComp elt [⟨tg, iter, ifs, 0⟩] scope pos) (some (.Name y py)) spos.line X.env = pure true := by exact sw_true rfl rfl rfl (by decide +kernel)) (hs : ∀ x, foldedSetIterable iter X.env x = pure x := by intro _; rfl) :
    OS X W (.Assign [.Name y py] (.ListComp elt [⟨tg, iter, ifs, 0⟩] scope pos) spos) (sAsg (eLcC it (own.map (·.2)) g t e) (gNm i)) := by
  skip
  obtain ⟨wi, p, hi⟩ := hi
  refine ⟨_, ps_setLc (g := tG X.K W0 js g) (tt := tT X.K W0 t) (te := tE X.K W0 e) hc hN hy hyl hsw p ok (fun s H C cl fp => (hg s H C cl fp).pg) (fun s H C cl fp => ht s H C cl fp) (fun s H C cl fp => (he s H C cl fp).pe) hs, fun ρ S io F σ H D' st en h => ?_⟩
  have h := RS.go (R := RepA X.K) (Q1 := fun v H1 => gName i v σ H1 D'.nx) en h fun d S1 io1 F1 H1 v e1 n1 s1 r1 h1 => h1 io1 F1 H1 (σ.set i (some v)) Nxt.refl s1 ((en.nxt n1).set r1 i)
  show tLc wi _ _ _ _ σ H (fun v H1 => gName i v σ H1 D'.nx)
  refine hi ρ S io F σ H _ st en (RG.bind h fun xs S1 io1 F1 H1 J e1 n1 s1 ij h1 => ?_)
  intro D hD
  by_cases hz : xs.length ≤ 100000
  · rw [if_pos hz] at h1
    refine lc_turns (wi := wi) s1 (en.nxt n1) hj ij hz h1 D hD fun ys S2 io2 F2 H2 acc nx s2 nD fD hH ra h2 => ?_
    have hi2 : (io2 ++ [some D])[S2.length]? = some (some D) := by rw [← s2.len]; simp
    obtain ⟨s3, n3⟩ := Sta.lay s2 nD fD hH (c := .lst ys) ⟨D, acc, hi2, fD, hH, ra⟩
    refine h2 (io2 ++ [some D]) F2 H2 (.ref D) ?_ s3 ⟨D, hi2, rfl⟩
    refine ⟨fun k a z => n3 k a (nx.han k a z), nx.fr, nx.out, fun k a z => ?_, nx.stay, nx.nf⟩
    rw [List.getElem?_append] at z
    split at z
    · exact nx.new k a z
    · rename_i hk
      have hk2 : k - io2.length = 0 := by
        have := (List.getElem?_eq_some_iff.mp z).1
        simp at this
        omega
      rw [hk2] at z
      have z : D = a := by simpa using z
      subst z
      exact .inr hD
  · rw [if_neg hz] at h1
    exact h1.elim

end
theorem BinOk.or {K : PySem.W.Frag} {r r' : R2} {f g : P → P → Option P} (h : BinOk K r f) (h' : BinOk K r' g) : BinOk K (fun x y H Q => r x y H Q ∨ r' x y H Q) (fun x y => match f x y with
  | some z => some z
  | none => g x y) := by
  intro io F S H x y v w z Q st rx ry e k
  cases q : f x y with
  | some z' =>
    dsimp only at e
    rw [q] at e
    have e : z' = z := Option.some.inj e
    subst e
    exact .inl (h io F S H x y v w z' Q st rx ry q k)
  | none =>
    dsimp only at e
    rw [q] at e
    exact .inr (h' io F S H x y v w z Q st rx ry e k)
def pInD (y z : P) : Option P := match z with
  | .lst xs => if y.dat 60 && (P.lst xs).dat 60 then some (.bl (inP y xs)) else none
  | _ => none
def pNotInD (y z : P) : Option P := match z with
  | .lst xs => if y.dat 60 && (P.lst xs).dat 60 then some (.bl (!inP y xs)) else none
  | _ => none
theorem any_toD {y : P} {n : Nat} (hy : y.dat n = true) {m : Nat} : ∀ {xs : List P}, datL xs m = true → ((toDL xs).any fun z => PyData.eqv z y.toD) = inP y xs
  | [], _ => rfl
  | x :: xs, h => by
    have h : (x.dat m && datL xs m) = true := h
    rw [Bool.and_eq_true] at h
    show (PyData.eqv x.toD y.toD || (toDL xs).any fun z => PyData.eqv z y.toD) = (x.eqv y || inP y xs)
    rw [P.eqD h.1 hy, any_toD hy h.2]
theorem ok_inD {K : PySem.W.Frag} : BinOk K (rInD K) pInD := by
  intro io F S H x y v w z Q st rx ry e k
  unfold pInD at e
  split at e
  · rename_i xs
    split at e
    · rename_i hd
      rw [Bool.and_eq_true] at hd
      cases e
      refine ⟨x.toD, toDL xs, Rep.dp hd.1 (rx.now st.sub), Rep.dp (x := .lst xs) hd.2 (ry.now st.sub), P.shp (by decide) hd.1, P.shp (x := .lst xs) (by decide) hd.2, ?_⟩
      rw [any_toD (m := 59) hd.1 hd.2]
      exact k F H _ Nxt.refl st rfl
    · cases e
  · cases e
theorem ok_notInD {K : PySem.W.Frag} : BinOk K (rNotInD K) pNotInD := by
  intro io F S H x y v w z Q st rx ry e k
  unfold pNotInD at e
  split at e
  · rename_i xs
    split at e
    · rename_i hd
      rw [Bool.and_eq_true] at hd
      cases e
      refine ⟨x.toD, toDL xs, Rep.dp hd.1 (rx.now st.sub), Rep.dp (x := .lst xs) hd.2 (ry.now st.sub), P.shp (by decide) hd.1, P.shp (x := .lst xs) (by decide) hd.2, ?_⟩
      rw [any_toD (m := 59) hd.1 hd.2]
      exact k F H _ Nxt.refl st rfl
    · cases e
  · cases e
def pIn2 (x y : P) : Option P := match pIn x y with
  | some z => some z
  | none => pInD x y
def pNotIn2 (x y : P) : Option P := match pNotIn x y with
  | some z => some z
  | none => pNotInD x y
section
variable {X : Cx} {W : WX} {a b : Expr} {ma mb : ME} {pos : Pos} {k : Nat}
theorem room65 {A : Around} (hr : Room k A) : A.units + 65 < cLine := by have := hr.un; omega
theorem oe_in2 (hr : Room k X.A) (ha : OE X W a ma) (hb : OE X W b mb) (hm : behindInMarks .In b = false := by rfl) : OE X W (.Compare a [.In] [b] pos) (eBin pIn2 ma mb) := oe_cmp (OpR.or (OpR.or op_in_seq op_in_str) (op_inD (room65 hr))) (BinOk.or ok_in ok_inD) ha hb hm
theorem ot_in2 (hr : Room k X.A) (ha : OE X W a ma) (hb : OE X W b mb) (hm : behindInMarks .In b = false := by rfl) : OT X W (.Compare a [.In] [b] pos) (tVal (eBin pIn2 ma mb)) := ot_cmp (OpR.or (OpR.or op_in_seq op_in_str) (op_inD (room65 hr))) (BinOk.or ok_in ok_inD) ha hb hm
theorem ot_notIn2 (hr : Room k X.A) (ha : OE X W a ma) (hb : OE X W b mb) (hm : behindInMarks .NotIn b = false := by rfl) : OT X W (.Compare a [.NotIn] [b] pos) (tVal (eBin pNotIn2 ma mb)) := ot_cmp (OpR.or (OpR.or op_notIn_seq op_notin_str) (op_notInD (room65 hr))) (BinOk.or ok_notIn ok_notInD) ha hb hm
end
end Mir

namespace Mir
open PySem L2
theorem szL_ {n : Nat} (h : n < 16700000) : n < sizeLine := Nat.lt_of_lt_of_le h (by decide)
def lcGo2 (g : MG) (t : MT) (it1 : MI) (vs1 : List Nat) (g1 : MG) (t1 : MT) (e : ME) (ρ : En) : List P → Sto → Res (List P)
  | [], S => .ok [] S
  | x :: xs, S => (g (.p x) ρ S).nox.bind fun ρ1 S1 => (t ρ1 S1).nox.bind fun b S2 => match b with
    | true => (it1 ρ1 S2).nox.bind fun zs S3 => if zs.length ≤ 4000 then (lcGo g1 t1 e (wipeE ρ1 vs1) zs S3).bind fun us S4 => (lcGo2 g t it1 vs1 g1 t1 e ρ xs S4).bind fun ws S5 => .ok (us ++ ws) S5 else .bad
    | false => lcGo2 g t it1 vs1 g1 t1 e ρ xs S2
def eLc2 (it : MI) (vs : List Nat) (g : MG) (t : MT) (it1 : MI) (vs1 : List Nat) (g1 : MG) (t1 : MT) (e : ME) : ME := fun ρ S => (it ρ S).bind fun xs S1 => if xs.length ≤ 4000 then (lcGo2 g t it1 vs1 g1 t1 e (wipeE ρ vs) xs S1).bind fun ys S2 => .ok (.p (.lst ys)) S2 else .bad
section
variable {K : PySem.W.Frag} {Q : VK} {E : XK}
theorem lc_inner {wi : TI} {xs : List P} {J : It} {js vs : List Nat} {g : MG} {t : MT} {e : ME} {ρ : En} {σ : St} {S1 : Sto} {ioB : Io} {FB HB : Hp} {io1 : Io} {F1 H1 : Hp} {acc0 : List V} {ys0 : List P} {fin : List P → Sto → Res Vl} (s1 : Sta K io1 F1 S1 H1) (en : Mir.Env K io1 F1 ρ σ) (hj : ∀ j ∈ js, j ∈ vs)
    (ij : IterOk K F1 xs J) (h : RG K (RepA K) ((lcGo g t e (wipeE ρ vs) xs S1).bind fun zs S2 => fin (ys0 ++ zs) S2) ioB FB HB Q E)
    (hB : Nxt ioB FB HB io1 F1 H1) (D : Addr) (hD : HB D = none) (nD : ∀ k : Nat, io1[k]? ≠ some (some D)) (fD : F1 D = none) (hH : H1 D = some (.lst acc0)) (ra : RepL K F1 ys0 acc0) (hz : ys0.length + xs.length ≤ 16000000) (R : Hp → Prop)
    (done : ∀ ys S2 io2 F2 H2 acc, (∀ (k : Nat) (a : Addr), io1[k]? = some (some a) → io2[k]? = some (some a)) → Same F1 F2 → Nxt ioB FB HB io2 F2 H2 → Sta K io2 F2 S2 H2 → (∀ k : Nat, io2[k]? ≠ some (some D)) → F2 D = none → H2 D = some (.lst acc) → RepL K F2 ys acc → ys.length ≤ ys0.length + xs.length → RG K (RepA K) (fin ys S2) ioB FB HB Q E → R H2) :
    ∃ W : Nat → Nat → Hp → Prop, (∃ m, W 0 m H1) ∧ ∀ i m H, W i m H →
      (J.stop i H ∧ R H) ∨ (J.go i H ∧ ∃ Nx : Hp → Prop, (∀ H', Nx H' → ∃ m', m' < m ∧ W (i + 1) m' H') ∧ ∀ x H', J.yld i H x H' → tG K W0 js g x (L2.wipe σ vs) H' fun σ2 H2 => L2.wipe σ2 vs = L2.wipe σ vs ∧ tT K W0 t σ2 H2 fun b H3 =>
        if b = true then tE K W0 e σ2 H3 fun y H4 => ∃ acc, H4 D = some (.lst acc) ∧ acc.length < sizeLine ∧ Nx (upd H4 D (.lst (acc ++ [y]))) else Nx H3) := by
  let Inv' : Nat → Hp → Prop := fun i H => ∃ S io F acc ys, (∀ (k : Nat) (a : Addr), io1[k]? = some (some a) → io[k]? = some (some a)) ∧ Same F1 F ∧ Nxt ioB FB HB io F H ∧ Sta K io F S H ∧ (∀ k : Nat, io[k]? ≠ some (some D)) ∧ F D = none ∧ H D = some (.lst acc) ∧ RepL K F ys acc ∧ ys.length ≤ ys0.length + i ∧ RG K (RepA K) ((lcGo g t e (wipeE ρ vs) (xs.drop i) S).bind fun zs S2 => fin (ys ++ zs) S2) ioB FB HB Q E
  refine ⟨fun i m H => m = xs.length - i ∧ i ≤ xs.length ∧ Inv' i H, ⟨xs.length, by simp, Nat.zero_le _, S1, io1, F1, acc0, ys0, fun _ _ z => z, fun _ _ z => z, hB, s1, nD, fD, hH, ra, Nat.le_refl _, h⟩, ?_⟩
  clear nD fD hH ra h s1
  rintro i m H ⟨rfl, hle, S, io, F, acc, ys, han1, fr1, nx, st, nD, fD, hH, ra, hl, hh⟩
  obtain ⟨go, stop⟩ := ij io F S H i fr1 st
  cases hx : xs[i]? with
  | none =>
    have hd : xs.drop i = [] := List.drop_eq_nil_of_le (List.getElem?_eq_none_iff.mp hx)
    rw [hd] at hh
    have hh : RG K (RepA K) (fin (ys ++ []) S) ioB FB HB Q E := hh
    rw [List.append_nil] at hh
    exact .inl ⟨stop hx, done ys S io F H acc han1 fr1 nx st nD fD hH ra (by omega) hh⟩
  | some x =>
    have hlt : i < xs.length := (List.getElem?_eq_some_iff.mp hx).1
    have hd : xs.drop i = x :: xs.drop (i + 1) := by
      rw [List.drop_eq_getElem_cons hlt]
      congr 1
      exact (List.getElem?_eq_some_iff.mp hx).2
    rw [hd] at hh
    obtain ⟨go1, go2⟩ := go x hx
    refine .inr ⟨go1, Inv' (i + 1), fun H' q => ⟨xs.length - (i + 1), by omega, rfl, hlt, q⟩, fun v H'' hy => ?_⟩
    obtain ⟨F'', n2, s2, rv⟩ := go2 v H'' hy
    have keepD : ∀ {io' : Io} {F' : Hp} {H' : Hp}, Nxt io F H io' F' H' → (∀ k : Nat, io'[k]? ≠ some (some D)) ∧ F' D = none ∧ H' D = some (.lst acc) := fun {io' F' H'} n => by
      refine ⟨fun k e => ?_, ?_, n.out D _ hH nD⟩
      · rcases n.new k D e with z | z
        · exact nD k z
        · rw [hH] at z; cases z
      · cases q : F' D with
        | none => rfl
        | some o =>
          rcases n.nf D (by rw [q]; exact fun z => nomatch z) with z | z | ⟨k, z⟩
          · exact absurd fD z
          · rw [hH] at z; cases z
          · exact absurd z (nD k)
    have hh : RG K (RepA K) (((g (.p x) (wipeE ρ vs) S).nox.bind fun ρ1 S1 => (t ρ1 S1).nox.bind fun b S2 => match b with
      | true => (e ρ1 S2).nox.bind fun d S3 => (frz d S3).bind fun y S4 => (lcGo g t e (wipeE ρ vs) (xs.drop (i + 1)) S4).bind fun ys S5 => .ok (y :: ys) S5
      | false => lcGo g t e (wipeE ρ vs) (xs.drop (i + 1)) S2).bind fun zs S2 => fin (ys ++ zs) S2) ioB FB HB Q E := hh
    cases q1 : g (.p x) (wipeE ρ vs) S with
    | bad => rw [q1] at hh; exact hh.elim
    | exc c x S => rw [q1] at hh; exact hh.elim
    | ok ρ1 Sa =>
      rw [q1] at hh
      refine ⟨.p x, wipeE ρ vs, S, io, F'', s2, ((en.mono han1 fr1).nxt n2).wipe vs, rv, ?_⟩
      rw [q1]
      intro io3 F3 H3 σ3 n3 s3 r3
      refine ⟨?_, ?_⟩
      · rw [wipe_agree r3.2 hj]
        have key : ∀ (τ : St) (vs : List Nat), L2.wipe (L2.wipe τ vs) vs = L2.wipe τ vs := by
          intro τ vs
          apply List.ext_getElem?
          intro j
          have k2 : ∀ (τ : St) (vs : List Nat) (j : Nat), (L2.wipe τ vs)[j]? = if j ∈ vs then (τ[j]?).map (fun _ => none) else τ[j]? := wipe_get
          rw [k2, k2]
          by_cases hj : j ∈ vs
          · rw [if_pos hj, if_pos hj]
            cases τ[j]? <;> rfl
          · rw [if_neg hj, if_neg hj]
        exact key σ vs
      have hh : RG K (RepA K) (((t ρ1 Sa).nox.bind fun b S2 => match b with
        | true => (e ρ1 S2).nox.bind fun d S3 => (frz d S3).bind fun y S4 => (lcGo g t e (wipeE ρ vs) (xs.drop (i + 1)) S4).bind fun ys S5 => .ok (y :: ys) S5
        | false => lcGo g t e (wipeE ρ vs) (xs.drop (i + 1)) S2).bind fun zs S2 => fin (ys ++ zs) S2) ioB FB HB Q E := hh
      cases q2 : t ρ1 Sa with
      | bad => rw [q2] at hh; exact hh.elim
      | exc c x S => rw [q2] at hh; exact hh.elim
      | ok b Sb =>
        rw [q2] at hh
        refine ⟨ρ1, Sa, io3, F3, s3, r3.1, ?_⟩
        rw [q2]
        intro io4 F4 H4 b' n4 s4 r4
        cases r4
        cases b with
        | false =>
          refine iteF ?_
          obtain ⟨d1, d2, d3⟩ := keepD ((n2.trans n3).trans n4)
          exact ⟨Sb, io4, F4, acc, ys, fun k a z => ((n2.trans n3).trans n4).han k a (han1 k a z), fr1.trans ((n2.trans n3).trans n4).fr, nx.trans ((n2.trans n3).trans n4), s4, d1, d2, d3, RepL.mono ((n2.trans n3).trans n4).fr ra, by omega, hh⟩
        | true =>
          refine iteT ?_
          have hh : RG K (RepA K) (((e ρ1 Sb).nox.bind fun d S3 => (frz d S3).bind fun y S4 => (lcGo g t e (wipeE ρ vs) (xs.drop (i + 1)) S4).bind fun ys S5 => .ok (y :: ys) S5).bind fun zs S2 => fin (ys ++ zs) S2) ioB FB HB Q E := hh
          cases q3 : e ρ1 Sb with
          | bad => rw [q3] at hh; exact hh.elim
          | exc c x S => rw [q3] at hh; exact hh.elim
          | ok d Sc =>
            rw [q3] at hh
            refine ⟨ρ1, Sb, io4, F4, s4, r3.1.nxt n4, ?_⟩
            rw [q3]
            intro io5 F5 H5 w n5 s5 r5
            have hh : RG K (RepA K) (((frz d Sc).bind fun y S4 => (lcGo g t e (wipeE ρ vs) (xs.drop (i + 1)) S4).bind fun ys S5 => .ok (y :: ys) S5).bind fun zs S2 => fin (ys ++ zs) S2) ioB FB HB Q E := hh
            have n15 := ((n2.trans n3).trans n4).trans n5
            cases q4 : frz d Sc with
            | bad => rw [q4] at hh; exact hh.elim
            | exc c x S =>
              exact absurd q4 (frz_nox _ _ _ _ _)
            | ok y Sd =>
              rw [q4] at hh
              obtain ⟨y', Sd', F6, n6, s6, rp, hz6, _⟩ := s5.frz (C := Vl) (D := V) (R' := RepA K) (g := fun _ S => .ok (.p .non) S) (Q := fun _ _ => True) (E := fun _ _ _ => True) r5 (by rw [q4]; exact fun _ _ _ _ _ _ _ => trivial)
              rw [q4] at hz6; cases hz6
              obtain ⟨d1, d2, d3⟩ := keepD (n15.trans n6)
              have hlen : acc.length ≤ ys0.length + i := by rw [ra.length]; exact hl
              refine ⟨acc, d3, szL_ (by omega), ?_⟩
              have nx' := nx.trans (n15.trans n6)
              refine ⟨Sd, io5, F6, acc ++ [w], ys ++ [y], fun k a z => (n15.trans n6).han k a (han1 k a z), fr1.trans (n15.trans n6).fr, ?_, s6.side d1 d2, d1, d2, upd_same, (RepL.mono (n15.trans n6).fr ra).append (.cons rp .nil), by rw [List.length_append]; simp only [List.length_cons, List.length_nil]; omega, ?_⟩
              · refine ⟨nx'.han, nx'.fr, fun a o z zn => ?_, nx'.new, fun a z => ?_, nx'.nf⟩
                · rw [upd_ne (ne_of_none z hD)]; exact nx'.out a o z zn
                · by_cases q : a = D
                  · subst q; exact hD
                  · rw [upd_ne q] at z; exact nx'.stay a z
              · have hh : RG K (RepA K) (((lcGo g t e (wipeE ρ vs) (xs.drop (i + 1)) Sd).bind fun ys S5 => Res.ok (y :: ys) S5).bind fun zs S2 => fin (ys ++ zs) S2) ioB FB HB Q E := hh
                have q5 : (((lcGo g t e (wipeE ρ vs) (xs.drop (i + 1)) Sd).bind fun ys S5 => Res.ok (y :: ys) S5).bind fun zs S2 => fin (ys ++ zs) S2) = (lcGo g t e (wipeE ρ vs) (xs.drop (i + 1)) Sd).bind fun zs S2 => fin (ys ++ [y] ++ zs) S2 := by
                  cases lcGo g t e (wipeE ρ vs) (xs.drop (i + 1)) Sd with
                  | bad => rfl
                  | exc c x S => rfl
                  | ok zs S =>
                    show fin (ys ++ (y :: zs)) S = fin (ys ++ [y] ++ zs) S
                    rw [List.append_assoc]
                    rfl
                rw [q5] at hh
                exact hh
theorem lc2_turns {wi1 : TI} {xs : List P} {J : It} {js js1 vs vs1 : List Nat} {g : MG} {t : MT} {it1 : MI} {g1 : MG} {t1 : MT} {e : ME} {ρ : En} {σ : St} {S1 : Sto} {io1 : Io} {F1 H1 : Hp} {fin : List P → Sto → Res Vl} (s1 : Sta K io1 F1 S1 H1) (en : Mir.Env K io1 F1 ρ σ) (hj : ∀ j ∈ js, j ∈ vs) (hj1 : ∀ j ∈ js1, j ∈ vs1) (hw1 : ∀ (ρ : En) (S : Sto) (io : Io) (F : Hp) (σ : St) (H : Hp) (R : It → Hp → Prop), Sta K io F S H → Mir.Env K io F ρ σ → RG K (RepJ K) (it1 ρ S) io F H R (fun c d H' => False) → wi1 σ H R)
    (ij : IterOk K F1 xs J) (hz : xs.length ≤ 4000) (h : RG K (RepA K) ((lcGo2 g t it1 vs1 g1 t1 e (wipeE ρ vs) xs S1).bind fin) io1 F1 H1 Q E)
    (D : Addr) (hD : H1 D = none)
    (done : ∀ ys S2 io2 F2 H2 acc, Nxt io1 F1 H1 io2 F2 H2 → Sta K io2 F2 S2 H2 → (∀ k : Nat, io2[k]? ≠ some (some D)) → F2 D = none → H2 D = some (.lst acc) → RepL K F2 ys acc → RG K (RepA K) (fin ys S2) io1 F1 H1 Q E → Q (.ref D) H2) :
    ∃ W : Nat → Nat → Hp → Prop, (∃ m, W 0 m (upd H1 D (.lst []))) ∧ ∀ i m H, W i m H →
      (J.stop i H ∧ Q (.ref D) H) ∨ (J.go i H ∧ ∃ Nx : Hp → Prop, (∀ H', Nx H' → ∃ m', m' < m ∧ W (i + 1) m' H') ∧ ∀ x H', J.yld i H x H' → tG K W0 js g x (L2.wipe σ vs) H' fun σ2 H2 => L2.wipe σ2 vs = L2.wipe σ vs ∧ tT K W0 t σ2 H2 fun b H3 =>
        if b = true then wi1 σ2 H3 fun J1 H4 => ∃ W1 : Nat → Nat → Hp → Prop, (∃ m, W1 0 m H4) ∧ ∀ j k H, W1 j k H →
          (J1.stop j H ∧ Nx H) ∨ (J1.go j H ∧ ∃ Nx1 : Hp → Prop, (∀ H', Nx1 H' → ∃ k', k' < k ∧ W1 (j + 1) k' H') ∧ ∀ x H', J1.yld j H x H' → tG K W0 js1 g1 x (L2.wipe σ2 vs1) H' fun σ3 H5 => L2.wipe σ3 vs1 = L2.wipe σ2 vs1 ∧ tT K W0 t1 σ3 H5 fun b H6 =>
            if b = true then tE K W0 e σ3 H6 fun y H7 => ∃ acc, H7 D = some (.lst acc) ∧ acc.length < sizeLine ∧ Nx1 (upd H7 D (.lst (acc ++ [y]))) else Nx1 H6)
        else Nx H3) := by
  let Inv' : Nat → Hp → Prop := fun i H => ∃ S io F acc ys, Nxt io1 F1 H1 io F H ∧ Sta K io F S H ∧ (∀ k : Nat, io[k]? ≠ some (some D)) ∧ F D = none ∧ H D = some (.lst acc) ∧ RepL K F ys acc ∧ ys.length ≤ 4000 * i ∧ RG K (RepA K) ((lcGo2 g t it1 vs1 g1 t1 e (wipeE ρ vs) (xs.drop i) S).bind fun zs S2 => fin (ys ++ zs) S2) io1 F1 H1 Q E
  refine ⟨fun i m H => m = xs.length - i ∧ i ≤ xs.length ∧ Inv' i H, ⟨xs.length, by simp, Nat.zero_le _, S1, io1, F1, [], [], ?_, s1.side (s1.notIn hD) (Same.free s1.sub hD), s1.notIn hD, Same.free s1.sub hD, upd_same, .nil, Nat.le_refl _, ?_⟩, ?_⟩
  · refine ⟨fun _ _ z => z, fun _ _ z => z, fun a o z _ => ?_, fun _ _ z => .inl z, fun a z => ?_, fun _ z => .inl z⟩
    · rw [upd_ne (ne_of_none z hD)]; exact z
    · by_cases q : a = D
      · subst q; exact hD
      · rw [upd_ne q] at z; exact z
  · exact h
  rintro i m H ⟨rfl, hle, S, io, F, acc, ys, nx, st, nD, fD, hH, ra, hl, hh⟩
  obtain ⟨go, stop⟩ := ij io F S H i nx.fr st
  cases hx : xs[i]? with
  | none =>
    have hd : xs.drop i = [] := List.drop_eq_nil_of_le (List.getElem?_eq_none_iff.mp hx)
    rw [hd] at hh
    have hh : RG K (RepA K) (fin (ys ++ []) S) io1 F1 H1 Q E := hh
    rw [List.append_nil] at hh
    exact .inl ⟨stop hx, done ys S io F H acc nx st nD fD hH ra hh⟩
  | some x =>
    have hlt : i < xs.length := (List.getElem?_eq_some_iff.mp hx).1
    have hd : xs.drop i = x :: xs.drop (i + 1) := by
      rw [List.drop_eq_getElem_cons hlt]
      congr 1
      exact (List.getElem?_eq_some_iff.mp hx).2
    rw [hd] at hh
    obtain ⟨go1, go2⟩ := go x hx
    refine .inr ⟨go1, Inv' (i + 1), fun H' q => ⟨xs.length - (i + 1), by omega, rfl, hlt, q⟩, fun v H'' hy => ?_⟩
    obtain ⟨F'', n2, s2, rv⟩ := go2 v H'' hy
    have keepD : ∀ {io' : Io} {F' : Hp} {H' : Hp}, Nxt io F H io' F' H' → (∀ k : Nat, io'[k]? ≠ some (some D)) ∧ F' D = none ∧ H' D = some (.lst acc) := fun {io' F' H'} n => by
      refine ⟨fun k e => ?_, ?_, n.out D _ hH nD⟩
      · rcases n.new k D e with z | z
        · exact nD k z
        · rw [hH] at z; cases z
      · cases q : F' D with
        | none => rfl
        | some o =>
          rcases n.nf D (by rw [q]; exact fun z => nomatch z) with z | z | ⟨k, z⟩
          · exact absurd fD z
          · rw [hH] at z; cases z
          · exact absurd z (nD k)
    have hh : RG K (RepA K) (((g (.p x) (wipeE ρ vs) S).nox.bind fun ρ1 S1 => (t ρ1 S1).nox.bind fun b S2 => match b with
      | true => (it1 ρ1 S2).nox.bind fun zs S3 => if zs.length ≤ 4000 then (lcGo g1 t1 e (wipeE ρ1 vs1) zs S3).bind fun us S4 => (lcGo2 g t it1 vs1 g1 t1 e (wipeE ρ vs) (xs.drop (i + 1)) S4).bind fun ws S5 => .ok (us ++ ws) S5 else .bad
      | false => lcGo2 g t it1 vs1 g1 t1 e (wipeE ρ vs) (xs.drop (i + 1)) S2).bind fun zs S2 => fin (ys ++ zs) S2) io1 F1 H1 Q E := hh
    cases q1 : g (.p x) (wipeE ρ vs) S with
    | bad => rw [q1] at hh; exact hh.elim
    | exc c x S => rw [q1] at hh; exact hh.elim
    | ok ρ1 Sa =>
      rw [q1] at hh
      refine ⟨.p x, wipeE ρ vs, S, io, F'', s2, ((en.nxt nx).nxt n2).wipe vs, rv, ?_⟩
      rw [q1]
      intro io3 F3 H3 σ3 n3 s3 r3
      refine ⟨?_, ?_⟩
      · rw [wipe_agree r3.2 hj]
        have key : ∀ (τ : St) (vs : List Nat), L2.wipe (L2.wipe τ vs) vs = L2.wipe τ vs := by
          intro τ vs
          apply List.ext_getElem?
          intro j
          have k2 : ∀ (τ : St) (vs : List Nat) (j : Nat), (L2.wipe τ vs)[j]? = if j ∈ vs then (τ[j]?).map (fun _ => none) else τ[j]? := wipe_get
          rw [k2, k2]
          by_cases hj : j ∈ vs
          · rw [if_pos hj, if_pos hj]
            cases τ[j]? <;> rfl
          · rw [if_neg hj, if_neg hj]
        exact key σ vs
      have hh : RG K (RepA K) (((t ρ1 Sa).nox.bind fun b S2 => match b with
        | true => (it1 ρ1 S2).nox.bind fun zs S3 => if zs.length ≤ 4000 then (lcGo g1 t1 e (wipeE ρ1 vs1) zs S3).bind fun us S4 => (lcGo2 g t it1 vs1 g1 t1 e (wipeE ρ vs) (xs.drop (i + 1)) S4).bind fun ws S5 => .ok (us ++ ws) S5 else .bad
        | false => lcGo2 g t it1 vs1 g1 t1 e (wipeE ρ vs) (xs.drop (i + 1)) S2).bind fun zs S2 => fin (ys ++ zs) S2) io1 F1 H1 Q E := hh
      cases q2 : t ρ1 Sa with
      | bad => rw [q2] at hh; exact hh.elim
      | exc c x S => rw [q2] at hh; exact hh.elim
      | ok b Sb =>
        rw [q2] at hh
        refine ⟨ρ1, Sa, io3, F3, s3, r3.1, ?_⟩
        rw [q2]
        intro io4 F4 H4 b' n4 s4 r4
        cases r4
        cases b with
        | false =>
          refine iteF ?_
          obtain ⟨d1, d2, d3⟩ := keepD ((n2.trans n3).trans n4)
          exact ⟨Sb, io4, F4, acc, ys, nx.trans ((n2.trans n3).trans n4), s4, d1, d2, d3, RepL.mono ((n2.trans n3).trans n4).fr ra, by omega, hh⟩
        | true =>
          refine iteT ?_
          have hh : RG K (RepA K) (((it1 ρ1 Sb).nox.bind fun zs S3 => if zs.length ≤ 4000 then (lcGo g1 t1 e (wipeE ρ1 vs1) zs S3).bind fun us S4 => (lcGo2 g t it1 vs1 g1 t1 e (wipeE ρ vs) (xs.drop (i + 1)) S4).bind fun ws S5 => .ok (us ++ ws) S5 else .bad).bind fun zs S2 => fin (ys ++ zs) S2) io1 F1 H1 Q E := hh
          cases q3 : it1 ρ1 Sb with
          | bad => rw [q3] at hh; exact hh.elim
          | exc c x S => rw [q3] at hh; exact hh.elim
          | ok zs Sc =>
            rw [q3] at hh
            have hh : RG K (RepA K) ((if zs.length ≤ 4000 then (lcGo g1 t1 e (wipeE ρ1 vs1) zs Sc).bind fun us S4 => (lcGo2 g t it1 vs1 g1 t1 e (wipeE ρ vs) (xs.drop (i + 1)) S4).bind fun ws S5 => .ok (us ++ ws) S5 else .bad).bind fun zs S2 => fin (ys ++ zs) S2) io1 F1 H1 Q E := hh
            by_cases hzs : zs.length ≤ 4000
            · rw [if_pos hzs] at hh
              refine hw1 ρ1 Sb io4 F4 σ3 H4 _ s4 (r3.1.nxt n4) ?_
              rw [q3]
              intro io5 F5 H5 J1 n5 s5 r5
              have n15 := ((n2.trans n3).trans n4).trans n5
              obtain ⟨d1, d2, d3⟩ := keepD n15
              have nx' := nx.trans n15
              have q5 : (((lcGo g1 t1 e (wipeE ρ1 vs1) zs Sc).bind fun us S4 => (lcGo2 g t it1 vs1 g1 t1 e (wipeE ρ vs) (xs.drop (i + 1)) S4).bind fun ws S5 => Res.ok (us ++ ws) S5).bind fun zs S2 => fin (ys ++ zs) S2) = (lcGo g1 t1 e (wipeE ρ1 vs1) zs Sc).bind fun us S4 => (fun zz S4 => (lcGo2 g t it1 vs1 g1 t1 e (wipeE ρ vs) (xs.drop (i + 1)) S4).bind fun ws S5 => fin (zz ++ ws) S5) (ys ++ us) S4 := by
                cases lcGo g1 t1 e (wipeE ρ1 vs1) zs Sc with
                | bad => rfl
                | exc c x S => rfl
                | ok us S4 =>
                  show ((lcGo2 g t it1 vs1 g1 t1 e (wipeE ρ vs) (xs.drop (i + 1)) S4).bind fun ws S5 => Res.ok (us ++ ws) S5).bind (fun zs S2 => fin (ys ++ zs) S2) = (lcGo2 g t it1 vs1 g1 t1 e (wipeE ρ vs) (xs.drop (i + 1)) S4).bind fun ws S5 => fin (ys ++ us ++ ws) S5
                  cases lcGo2 g t it1 vs1 g1 t1 e (wipeE ρ vs) (xs.drop (i + 1)) S4 with
                  | bad => rfl
                  | exc c x S => rfl
                  | ok ws S5 =>
                    show fin (ys ++ (us ++ ws)) S5 = fin (ys ++ us ++ ws) S5
                    rw [List.append_assoc]
              rw [q5] at hh
              refine lc_inner (wi := wi1) (fin := fun zz S4 => (lcGo2 g t it1 vs1 g1 t1 e (wipeE ρ vs) (xs.drop (i + 1)) S4).bind fun ws S5 => fin (zz ++ ws) S5) s5 ((r3.1.nxt n4).nxt n5) hj1 r5 hh nx' D hD d1 d2 d3 (RepL.mono n15.fr ra) (by omega) _ fun ys2 S2 io2 F2 H2 acc2 han2 fr2 nx2 s2' nD2 fD2 hH2 ra2 hl2 h2 => ?_
              exact ⟨S2, io2, F2, acc2, ys2, nx2, s2', nD2, fD2, hH2, ra2, by omega, h2⟩
            · rw [if_neg hzs] at hh
              exact hh.elim
end
def tI1 (K : PySem.W.Frag) (m : MI) : TI := fun σ H R => ∃ ρ S io F, Sta K io F S H ∧ Mir.Env K io F ρ σ ∧ RG K (RepJ K) (m ρ S) io F H R (fun c d H' => False)
theorem OI.pi {X : Cx} {tg iter : Expr} {m : MI} (h : OI X W0 tg iter m) : PI X tg iter (tI1 X.K m) := by
  obtain ⟨t, p, h⟩ := h
  exact ⟨fun pins s σ H R I ⟨ρ, S, io, F, st, en, q⟩ => p.run pins s σ H R I (h ρ S io F σ H R st en q)⟩
section
variable {X : Cx} {W : WX} {elt tg iter tg1 iter1 : Expr} {ifs ifs1 : List Expr} {scope : Scope} {own : List (Str × Nat)} {pos : Pos} {it it1 : MI} {js js1 vs1 : List Nat} {g g1 : MG} {t t1 : MT} {e : ME}
theorem oe_lc2 (hc : X.calm = true) (hN : X.N.Nodup) (hi : OI X W tg iter it) (ok : BlkOk X.N X.env.scope scope own) (hv : ∀ j ∈ vs1, j ∈ own.map (·.2)) (hj : ∀ j ∈ js, j ∈ own.map (·.2)) (hj1 : ∀ j ∈ js1, j ∈ vs1)
    (hg : ∀ (s : Shared) (H : Hp) (C : Addr) (cl : List (Str × Addr)) (fp : List Addr), OG (X.blk s H scope (compEnvC scope cl C X.env) fp) W0 tg js g) (ht : ∀ (s : Shared) (H : Hp) (C : Addr) (cl : List (Str × Addr)) (fp : List Addr), OTs (X.blk s H scope (compEnvC scope cl C X.env) fp) ifs t)
    (hi1 : ∀ (s : Shared) (H : Hp) (C : Addr) (cl : List (Str × Addr)) (fp : List Addr), OI (X.blk s H scope (compEnvC scope cl C X.env) fp) W0 tg1 iter1 it1) (hg1 : ∀ (s : Shared) (H : Hp) (C : Addr) (cl : List (Str × Addr)) (fp : List Addr), OG (X.blk s H scope (compEnvC scope cl C X.env) fp) W0 tg1 js1 g1) (ht1 : ∀ (s : Shared) (H : Hp) (C : Addr) (cl : List (Str × Addr)) (fp : List Addr), OTs (X.blk s H scope (compEnvC scope cl C X.env) fp) ifs1 t1)
    (he : ∀ (s : Shared) (H : Hp) (C : Addr) (cl : List (Str × Addr)) (fp : List Addr), OE (X.blk s H scope (compEnvC scope cl C X.env) fp) W0 elt e) (hs : ∀ x, foldedSetIterable iter X.env x = pure x := by intro _; rfl) (hs1 : ∀ env x, foldedSetIterable iter1 env x = pure x := by intro _ _; rfl) :
    OE X W (.ListComp elt [⟨tg, iter, ifs, 0⟩, ⟨tg1, iter1, ifs1, 0⟩] scope pos) (eLc2 it (own.map (·.2)) g t it1 vs1 g1 t1 e) := by
  obtain ⟨wi, p, hi⟩ := hi
  refine ⟨_, pe_lc2 (wi1 := tI1 X.K it1) (g1 := tG X.K W0 js1 g1) (tt1 := tT X.K W0 t1) (g := tG X.K W0 js g) (tt := tT X.K W0 t) (te := tE X.K W0 e) hc hN p ok hv (fun s H C cl fp => (hg s H C cl fp).pg) (fun s H C cl fp => ht s H C cl fp) (fun s H C cl fp => (hi1 s H C cl fp).pi) (fun s H C cl fp => (hg1 s H C cl fp).pg) (fun s H C cl fp => ht1 s H C cl fp) (fun s H C cl fp => (he s H C cl fp).pe) hs hs1, fun ρ S io F σ H Q st en h => ?_⟩
  refine hi ρ S io F σ H _ st en (RG.bind h fun xs S1 io1 F1 H1 J e1 n1 s1 ij h1 => ?_)
  intro D hD
  by_cases hz : xs.length ≤ 4000
  · rw [if_pos hz] at h1
    refine lc2_turns (wi1 := tI1 X.K it1) s1 (en.nxt n1) hj hj1 (fun ρ S io F σ H R st en h => ⟨ρ, S, io, F, st, en, h⟩) ij hz h1 D hD fun ys S2 io2 F2 H2 acc nx s2 nD fD hH ra h2 => ?_
    refine h2 io2 (upd F2 D (.lst acc)) H2 (.ref D) ?_ ?_ ⟨D, acc, rfl, upd_same, RepL.mono (upd_same_of fD) ra⟩
    · refine ⟨nx.han, nx.fr.trans (upd_same_of fD), nx.out, nx.new, nx.stay, fun a z => ?_⟩
      by_cases q : a = D
      · subst q; exact .inr (.inl hD)
      · rw [upd_ne q] at z; exact nx.nf a z
    · refine ⟨s2.len, s2.inj, fun a u z => ?_, s2.trk, fun k c z => ?_⟩
      · by_cases q : a = D
        · subst q; rw [upd_same] at z; cases z; exact hH
        · rw [upd_ne q] at z; exact s2.sub _ _ z
      · refine (s2.cel k c z).mono (fun _ _ z => z) (upd_same_of fD) (fun b hb hn => ?_) fun _ _ _ hu => hu
        rw [upd_ne (fun q => by subst q; exact nD k hb)]
        exact hn
  · rw [if_neg hz] at h1
    exact h1.elim
theorem os_setLc2 {i : Nat} {y : Str} {py spos : Pos} (hc : X.calm = true) (hN : X.N.Nodup) (hi : OI X W tg iter it) (ok : BlkOk X.N X.env.scope scope own) (hv : ∀ j ∈ vs1, j ∈ own.map (·.2)) (hj : ∀ j ∈ js, j ∈ own.map (·.2)) (hj1 : ∀ j ∈ js1, j ∈ vs1)
    (hg : ∀ (s : Shared) (H : Hp) (C : Addr) (cl : List (Str × Addr)) (fp : List Addr), OG (X.blk s H scope (compEnvC scope cl C X.env) fp) W0 tg js g) (ht : ∀ (s : Shared) (H : Hp) (C : Addr) (cl : List (Str × Addr)) (fp : List Addr), OTs (X.blk s H scope (compEnvC scope cl C X.env) fp) ifs t)
    (hi1 : ∀ (s : Shared) (H : Hp) (C : Addr) (cl : List (Str × Addr)) (fp : List Addr), OI (X.blk s H scope (compEnvC scope cl C X.env) fp) W0 tg1 iter1 it1) (hg1 : ∀ (s : Shared) (H : Hp) (C : Addr) (cl : List (Str × Addr)) (fp : List Addr), OG (X.blk s H scope (compEnvC scope cl C X.env) fp) W0 tg1 js1 g1) (ht1 : ∀ (s : Shared) (H : Hp) (C : Addr) (cl : List (Str × Addr)) (fp : List Addr), OTs (X.blk s H scope (compEnvC scope cl C X.env) fp) ifs1 t1)
    (he : ∀ (s : Shared) (H : Hp) (C : Addr) (cl : List (Str × Addr)) (fp : List Addr), OE (X.blk s H scope (compEnvC scope cl C X.env) fp) W0 elt e) (hy : X.N[i]? = some y := by rfl) (hyl : X.env.scope.names.lookup y = some .local := by rfl)
    (hsw : swapsWith (.ListComp elt [⟨tg, iter, ifs, 0⟩, ⟨tg1, iter1, ifs1, 0⟩] scope pos) (some (.Name y py)) spos.line X.env = pure true := by exact sw_true rfl rfl rfl (by decide +kernel)) (hs : ∀ x, foldedSetIterable iter X.env x = pure x := by intro _; rfl) (hs1 : ∀ env x, foldedSetIterable iter1 env x = pure x := by intro _ _; rfl) :
    OS X W (.Assign [.Name y py] (.ListComp elt [⟨tg, iter, ifs, 0⟩, ⟨tg1, iter1, ifs1, 0⟩] scope pos) spos) (sAsg (eLc2 it (own.map (·.2)) g t it1 vs1 g1 t1 e) (gNm i)) := by
  obtain ⟨wi, p, hi⟩ := hi
  refine ⟨_, ps_setLc2 (wi1 := tI1 X.K it1) (g1 := tG X.K W0 js1 g1) (tt1 := tT X.K W0 t1) (g := tG X.K W0 js g) (tt := tT X.K W0 t) (te := tE X.K W0 e) hc hN hy hyl hsw p ok hv (fun s H C cl fp => (hg s H C cl fp).pg) (fun s H C cl fp => ht s H C cl fp) (fun s H C cl fp => (hi1 s H C cl fp).pi) (fun s H C cl fp => (hg1 s H C cl fp).pg) (fun s H C cl fp => ht1 s H C cl fp) (fun s H C cl fp => (he s H C cl fp).pe) hs hs1, fun ρ S io F σ H D' st en h => ?_⟩
  have h := RS.go (R := RepA X.K) (Q1 := fun v H1 => gName i v σ H1 D'.nx) en h fun d S1 io1 F1 H1 v e1 n1 s1 r1 h1 => h1 io1 F1 H1 (σ.set i (some v)) Nxt.refl s1 ((en.nxt n1).set r1 i)
  show tLc2 wi _ _ _ _ _ _ _ _ σ H (fun v H1 => gName i v σ H1 D'.nx)
  refine hi ρ S io F σ H _ st en (RG.bind h fun xs S1 io1 F1 H1 J e1 n1 s1 ij h1 => ?_)
  intro D hD
  by_cases hz : xs.length ≤ 4000
  · rw [if_pos hz] at h1
    refine lc2_turns (wi1 := tI1 X.K it1) s1 (en.nxt n1) hj hj1 (fun ρ S io F σ H R st en h => ⟨ρ, S, io, F, st, en, h⟩) ij hz h1 D hD fun ys S2 io2 F2 H2 acc nx s2 nD fD hH ra h2 => ?_
    refine h2 io2 (upd F2 D (.lst acc)) H2 (.ref D) ?_ ?_ ⟨D, acc, rfl, upd_same, RepL.mono (upd_same_of fD) ra⟩
    · refine ⟨nx.han, nx.fr.trans (upd_same_of fD), nx.out, nx.new, nx.stay, fun a z => ?_⟩
      by_cases q : a = D
      · subst q; exact .inr (.inl hD)
      · rw [upd_ne q] at z; exact nx.nf a z
    · refine ⟨s2.len, s2.inj, fun a u z => ?_, s2.trk, fun k c z => ?_⟩
      · by_cases q : a = D
        · subst q; rw [upd_same] at z; cases z; exact hH
        · rw [upd_ne q] at z; exact s2.sub _ _ z
      · refine (s2.cel k c z).mono (fun _ _ z => z) (upd_same_of fD) (fun b hb hn => ?_) fun _ _ _ hu => hu
        rw [upd_ne (fun q => by subst q; exact nD k hb)]
        exact hn
  · rw [if_neg hz] at h1
    exact h1.elim
end
end Mir

namespace Mir
open PySem L2
section
variable {X : Cx} {W : WX} {x : Str} {params : Arguments} {ps ks : List Str} {k j : Nat} {m : MF} {pm : List Nat} {kws : List Keyword} {mks : MA} {p pos : Pos}
theorem oe_fnK0 (G : GF X.prog X.w X.K X.mg X.base x params ps k m) (hr : RoomG j X.A) (hk : k ≤ j) (tk : Takes X W) (hw : OK_ X W kws mks) (hb : KwTo params ps ks 0 pm) (hpm : ∀ i ∈ pm, i < 0 + ks.length := by decide) (hg : Gl X x := by rfl)
    (hall : (backToKw pos (keywordEach kws X.env)).all (·.1.isSome) = true := by rfl) (hks : (backToKw pos (keywordEach kws X.env)).filterMap (·.1) = ks := by rfl)
    (hdb : (x == ("__debug__" : Str)) = false := by decide)
    (hpl : ((backTo pos (starEach [] X.env)).any (·.1) || (backToKw pos (keywordEach kws X.env)).any (·.1.isNone)) = false := by rfl) :
    OE X W (.Call (.Name x p) [] kws pos) (eFnK m 0 ks.length pm aNil mks) := by
  obtain ⟨fd, F, _, hp, _⟩ := G.fn
  obtain ⟨u, qk, hw⟩ := hw
  refine ⟨fun σ H Q => u σ H fun zs H2 => zs.length = ks.length ∧ spM X.K m (permL .non pm ([] ++ zs)) H2 Q (WE W σ), ⟨fun pins s σ H Q I h => ?_⟩, fun ρ S io F σ H Q st en h => ?_⟩
  · refine wpAny_Call_Name_kw (ld_glob I hg G.gl ?_ hdb)
    refine PySem.W.callWith_KW0 (h₀ := X.base) I.ok.mod.kin G.kp hall (thn (qk.run pos pins s σ H _ I h) fun ws s2 ⟨zs, H2, I2, rz, h2, q2⟩ => ⟨I2.kIn, ?_⟩) hpl
    rw [hks]
    exact run_kw (us := []) (vs := []) (E := WE W) F (hr.mono hk) hp hb (passAt tk σ) hpm I2 .nil rz rfl h2 q2
  · have h : RG X.K (RepA X.K) ((mks ρ S).bind fun zs S2 => if ([] : List Vl).length = 0 ∧ zs.length = ks.length then m (permL (.p .non) pm ([] ++ zs)) S2 else .bad) io F H Q _ := h
    refine hw ρ S io F σ H _ st en (RG.bind h fun zs S2 io2 F2 H2 us e2 n2 s2 r2 h2 => ?_)
    by_cases hq : ([] : List Vl).length = 0 ∧ zs.length = ks.length
    · rw [if_pos hq] at h2
      have l2 : us.length = ks.length := by rw [r2.length]; exact hq.2
      exact ⟨l2, io2, F2, S2, _, s2, RepVs.perm (ds := [] ++ zs) (vs := [] ++ us) r2 pm (fun i hi => by rw [List.nil_append, l2]; have := hpm i hi; omega), h2⟩
    · rw [if_neg hq] at h2; exact h2.elim
end
def eRgL (m : ME) : ME := fun ρ S => (m ρ S).bind fun d S1 => match d with
  | .p (.int j) => if 0 ≤ j ∧ j ≤ 100000 then .ok (.p (.lst (rangeP 0 j.toNat))) S1 else .bad
  | _ => .bad
section
variable {X : Cx} {W : WX} {a b : Expr} {ma mb : ME} {p p2 pos pos2 : Pos}
end
def pIs : P → P → Option P
  | .bl a, .bl b => some (.bl (decide (a = b)))
  | _, _ => none
def pIsNot : P → P → Option P
  | .bl a, .bl b => some (.bl (!decide (a = b)))
  | _, _ => none
section
variable {X : Cx} {W : WX} {a b : Expr} {ma mb : ME} {pos : Pos}
end
def aStar (m : ME) (r : MA) : MA := fun ρ S => (m ρ S).bind fun d S1 => match rd S1 d with
  | some (.lst xs) => (r ρ S1).bind fun ys S2 => .ok (xs.map Vl.p ++ ys) S2
  | some (.tup xs) => (r ρ S1).bind fun ys S2 => .ok (xs.map Vl.p ++ ys) S2
  | _ => .bad
section
variable {X : Cx} {W : WX} {a : Expr} {es : List Expr} {ma : ME} {mas : MA} {p : Pos}
theorem oa_star (ha : OE X W a ma) (hr : OA X W es mas) (hs : starEach (.Starred a p :: es) X.env = (true, eval a X.env) :: starEach es X.env := by rfl) : OA X W (.Starred a p :: es) (aStar ma mas) := by
  obtain ⟨t, q, ha⟩ := ha
  obtain ⟨u, q2, hr⟩ := hr
  refine ⟨_, StX.pa_star q q2 hs, fun ρ S io F σ H Q st en h => ?_⟩
  refine ha ρ S io F σ H _ st en (RG.bind h fun d S1 io1 F1 H1 v e1 n1 s1 r1 h1 => ?_)
  cases e : rd S1 d with
  | none => rw [e] at h1; exact h1.elim
  | some x =>
    rw [e] at h1
    have rr := s1.rd r1 e
    cases x with
    | lst xs =>
      obtain ⟨a, vs, rfl, hH, rl⟩ := rr
      refine ⟨a, vs, rfl, .inr (SqL.of hH), ?_⟩
      refine hr ρ S1 io1 F1 σ H1 _ s1 (en.nxt n1) (RG.bind h1 fun d2 S2 io2 F2 H2 v2 e2 n2 s2 r2 h2 => ?_)
      exact RG.val (R := RepAs X.K) (d := xs.map Vl.p ++ d2) s2 ((RepVs.pure.mpr (RepL.mono n2.fr rl)).append r2) h2
    | tup xs =>
      obtain ⟨a, vs, rfl, hT, rl⟩ := rr
      refine ⟨a, vs, rfl, .inl (sqt_mono s1.sub hT), ?_⟩
      refine hr ρ S1 io1 F1 σ H1 _ s1 (en.nxt n1) (RG.bind h1 fun d2 S2 io2 F2 H2 v2 e2 n2 s2 r2 h2 => ?_)
      exact RG.val (R := RepAs X.K) (d := xs.map Vl.p ++ d2) s2 ((RepVs.pure.mpr (RepL.mono n2.fr rl)).append r2) h2
    | _ => exact h1.elim
end
def fmt1 : Vl → Option (List Nat)
  | .p (.str x) => if x.length ≤ 100000 then some x else none
  | .p (.int i) => if i.natAbs.log2 < 1920 then some (Str.ofString (toString i)).cps.toList else none
  | _ => none
abbrev MJ := List Nat → En → Sto → Res (List Nat)
def jNil : MJ := fun acc _ S => .ok acc S
def jTxt (x : List Nat) (r : MJ) : MJ := fun acc ρ S => if acc.length + x.length ≤ 100000 then r (acc ++ x) ρ S else .bad
def jFmt (m : ME) (r : MJ) : MJ := fun acc ρ S => (m ρ S).bind fun d S1 => match fmt1 d with
  | some x => if acc.length + x.length ≤ 100000 then r (acc ++ x) ρ S1 else .bad
  | none => .bad
def eJoin (r : MJ) : ME := fun ρ S => (r [] ρ S).bind fun x S1 => .ok (.p (.str x)) S1
def RepJs : Io → Hp → List Nat → Str → Prop := fun _ _ x y => y = strOf x
def OJ (X : Cx) (W : WX) (es : List Expr) (m : MJ) : Prop := ∃ ts, PJ X es ts ∧ ∀ (acc : List Nat) (ρ : En) (S : Sto) (io : Io) (F : Hp) (σ : St) (H : Hp) (Q : Str → Hp → Prop), Sta X.K io F S H → Mir.Env X.K io F ρ σ →
  RG X.K RepJs (m acc ρ S) io F H Q (fun c d H' => W c d σ H') → tJs ts (strOf acc) σ H Q
section
variable {X : Cx} {W : WX} {a : Expr} {es : List Expr} {ma : ME} {mj : MJ} {p pos : Pos}
theorem oj_nil : OJ X W [] jNil := ⟨[], .nil, fun acc ρ S io F σ H Q st en h => RG.val (R := RepJs) (d := acc) (v := strOf acc) st rfl h⟩
theorem oj_txt {x : Str} {j : Nat} {xs : List Nat} (hr : OJ X W es mj) (h : x.cps.toList = xs := by rfl) : OJ X W (.Constant (.str x) j p :: es) (jTxt xs mj) := by
  obtain ⟨ts, q, hr⟩ := hr
  refine ⟨_, .cons pe_str q, fun acc ρ S io F σ H Q st en hw => ?_⟩
  have e : x = strOf xs := by rw [← h, strOf_toList]
  subst e
  have hw : RG X.K RepJs (if acc.length + xs.length ≤ 100000 then mj (acc ++ xs) ρ S else .bad) io F H Q _ := hw
  by_cases hl : acc.length + xs.length ≤ 100000
  · rw [if_pos hl] at hw
    refine ⟨strOf xs, rfl, ?_, ?_⟩
    · rw [strOf_append, strOf_length, List.length_append]
      exact sz5 hl
    · rw [strOf_append]
      exact hr (acc ++ xs) ρ S io F σ H Q st en hw
  · rw [if_neg hl] at hw
    exact hw.elim
theorem oj_fmt (ha : OE X W a ma) (hr : OJ X W es mj) : OJ X W (.FormattedValue a (-1) none p :: es) (jFmt ma mj) := by
  obtain ⟨t, q1, ha⟩ := ha
  obtain ⟨ts, q, hr⟩ := hr
  refine ⟨_, .cons (pe_fmt q1) q, fun acc ρ S io F σ H Q st en hw => ?_⟩
  refine ha ρ S io F σ H _ st en (RG.bind (R := RepA X.K) hw fun d S1 io1 F1 H1 v e1 n1 s1 r1 h1 => ?_)
  cases hf : fmt1 d with
  | none => rw [hf] at h1; exact h1.elim
  | some x =>
    rw [hf] at h1
    dsimp only at h1
    by_cases hl : acc.length + x.length ≤ 100000
    · rw [if_pos hl] at h1
      have fin : (strOf acc ++ strOf x).length ≤ sizeLine ∧ tJs ts (strOf acc ++ strOf x) σ H1 Q := by
        refine ⟨?_, ?_⟩
        · rw [strOf_append, strOf_length, List.length_append]
          exact sz5 hl
        · rw [strOf_append]
          exact hr (acc ++ x) ρ S1 io1 F1 σ H1 Q s1 (en.nxt n1) h1
      cases d with
      | c k => cases hf
      | p y =>
        cases y with
        | str y =>
          have r1 : v = .str (strOf y) := r1
          subst r1
          unfold fmt1 at hf
          dsimp only at hf
          split at hf
          · rename_i hy
            cases hf
            exact .inl ⟨strOf x, rfl, by rw [strOf_length]; exact sz5 hy, strOf x, rfl, fin.1, fin.2⟩
          · cases hf
        | int i =>
          have r1 : v = .int i := r1
          subst r1
          unfold fmt1 at hf
          dsimp only at hf
          split at hf
          · rename_i hy
            have ex : (Str.ofString (toString i)).cps.toList = x := Option.some.inj hf
            subst ex
            rw [strOf_toList] at fin
            exact .inr ⟨i, rfl, hy, _, rfl, fin.1, fin.2⟩
          · cases hf
        | _ => cases hf
    · rw [if_neg hl] at h1
      exact h1.elim
theorem oe_fstr {v1 v2 : Expr} (h : OJ X W (v1 :: v2 :: es) mj) : OE X W (.JoinedStr (v1 :: v2 :: es) pos) (eJoin mj) := by
  obtain ⟨ts, q, h⟩ := h
  refine ⟨_, pe_joined q, fun ρ S io F σ H Q st en hw => ?_⟩
  refine h [] ρ S io F σ H _ st en (RG.bind (R := RepJs) hw fun x S1 io1 F1 H1 v e1 n1 s1 r1 h1 => ?_)
  have r1 : v = strOf x := r1
  subst r1
  exact RG.val (R := RepA X.K) (d := .p (.str x)) s1 rfl h1
end
end Mir

namespace Mir
open PySem L2
section
variable {K : PySem.W.Frag} {io : Io} {F H : Hp} {S : Sto}
theorem Sta.keep (st : Sta K io F S H) : Sta K (io ++ [none]) F (S ++ [.res]) H ∧ Nxt io F H (io ++ [none]) F H := by
  have hi : ∀ (k : Nat) (a : Addr), io[k]? = some (some a) → (io ++ [none])[k]? = some (some a) := fun k a e => by
    rw [List.getElem?_append_left (List.getElem?_eq_some_iff.mp e).1]
    exact e
  have back : ∀ (k : Nat) (a : Addr), (io ++ [none])[k]? = some (some a) → io[k]? = some (some a) := fun k a e => by
    rw [List.getElem?_append] at e
    split at e
    · exact e
    · rename_i hk
      have hk2 : k - io.length = 0 := by
        have := (List.getElem?_eq_some_iff.mp e).1
        simp at this
        omega
      rw [hk2] at e
      cases e
  refine ⟨⟨by rw [List.length_append, List.length_append, st.len]; rfl, fun j k a h1 h2 => st.inj j k a (back _ _ h1) (back _ _ h2), st.sub, fun k a e => st.trk k a (back _ _ e), fun k d e => ?_⟩, ⟨hi, fun _ _ h => h, fun _ _ h _ => h, fun k a e => .inl (back _ _ e), fun _ h => h, fun _ h => .inl h⟩⟩
  rw [List.getElem?_append] at e
  split at e
  · exact (st.cel k d e).mono hi (fun _ _ z => z) (fun _ _ hn => hn) fun _ _ _ hu => hu
  · rename_i hk
    have hk2 : k - S.length = 0 := by
      have := (List.getElem?_eq_some_iff.mp e).1
      simp at this
      omega
    rw [hk2] at e
    have e' : Cell.res = d := by simpa using e
    subst e'
    have : k = io.length := by have := st.len; omega
    subst this
    show (io ++ [none])[io.length]? = some none
    simp
theorem Sta.keeps (st : Sta K io F S H) : ∀ n : Nat, Sta K (io ++ List.replicate n none) F (S ++ List.replicate n .res) H ∧ Nxt io F H (io ++ List.replicate n none) F H
  | 0 => by
    rw [List.replicate_zero, List.replicate_zero, List.append_nil, List.append_nil]
    exact ⟨st, Nxt.refl⟩
  | n + 1 => by
    obtain ⟨s, nx⟩ := Sta.keeps st n
    obtain ⟨s2, n2⟩ := s.keep
    rw [List.append_assoc, List.append_assoc, ← List.replicate_succ', ← List.replicate_succ'] at s2
    rw [List.append_assoc, ← List.replicate_succ'] at n2
    exact ⟨s2, nx.trans n2⟩
theorem Sta.fill (st : Sta K io F S H) {j : Nat} {p : Addr} {o : HO} {c : Cell} (hj : S[j]? = some .res) (hp : H p = none) (hc : CellAt K (io.set j (some p)) F (upd H p o) j c) :
    Sta K (io.set j (some p)) F (S.set j c) (upd H p o) ∧ Nxt io F H (io.set j (some p)) F (upd H p o) := by
  have hr : io[j]? = some none := st.cel j _ hj
  have hjl : j < io.length := (List.getElem?_eq_some_iff.mp hr).1
  have hF : F p = none := Same.free st.sub hp
  have hi : ∀ (k : Nat) (a : Addr), io[k]? = some (some a) → (io.set j (some p))[k]? = some (some a) := fun k a e => by
    by_cases q : k = j
    · subst q; rw [hr] at e; cases e
    · rw [List.getElem?_set_ne (Ne.symm q)]; exact e
  have back : ∀ (k : Nat) (a : Addr), (io.set j (some p))[k]? = some (some a) → io[k]? = some (some a) ∨ (k = j ∧ a = p) := fun k a e => by
    by_cases q : k = j
    · subst q
      rw [List.getElem?_set_self hjl] at e
      cases e
      exact .inr ⟨rfl, rfl⟩
    · rw [List.getElem?_set_ne (Ne.symm q)] at e
      exact .inl e
  refine ⟨⟨by rw [List.length_set, List.length_set, st.len], fun i k a h1 h2 => ?_, fun b u e => ?_, fun k a e z => ?_, fun k d e => ?_⟩, ⟨hi, fun _ _ h => h, fun b u e _ => ?_, fun k a e => ?_, fun b e => ?_, fun b e => .inl e⟩⟩
  · rcases back i a h1 with z | ⟨rfl, z⟩
    · rcases back k a h2 with y | ⟨rfl, y⟩
      · exact st.inj i k a z y
      · subst y; exact absurd hp (st.trk i _ z)
    · rcases back k a h2 with y | ⟨rfl, y⟩
      · subst z; exact absurd hp (st.trk k _ y)
      · rfl
  · rw [upd_ne (ne_of_none (st.sub _ _ e) hp)]
    exact st.sub _ _ e
  · rcases back k a e with y | ⟨rfl, y⟩
    · have q := st.trk k a y
      by_cases hb : a = p
      · subst hb; exact q hp
      · rw [upd_ne hb] at z; exact q z
    · subst y; rw [upd_same] at z; cases z
  · by_cases q : k = j
    · subst q
      rw [List.getElem?_set_self (by rw [← st.len]; exact hjl)] at e
      cases e
      exact hc
    · rw [List.getElem?_set_ne (Ne.symm q)] at e
      have h := st.cel k d e
      by_cases hd : (∃ x, d = .fz x) ∨ d = .res ∨ (∃ xs, d = .tup xs) ∨ ∃ xs, d = .dvs xs ∨ d = .tpz xs
      · rcases hd with ⟨x, rfl⟩ | rfl | ⟨xs, rfl⟩ | ⟨xs, rfl | rfl⟩
        · obtain ⟨a, h1, h2⟩ := h
          exact ⟨a, hi _ _ h1, h2⟩
        · show (io.set j (some p))[k]? = some none
          rw [List.getElem?_set_ne (Ne.symm q)]
          exact h
        · obtain ⟨a, vs, h1, h2, h3⟩ := h
          exact ⟨a, vs, hi _ _ h1, h2, h3⟩
        · obtain ⟨a, o, η, es, h1, h2, h3⟩ := h
          exact ⟨a, o, η, es, hi _ _ h1, h2, h3⟩
        · obtain ⟨a, vs, o, h1, h2, h3, h4, h5⟩ := h
          exact ⟨a, vs, o, hi _ _ h1, h2, h3, h4, h5⟩
      · obtain ⟨a, ob, ha, hn, hh⟩ := h.there (fun x z => hd (.inl ⟨x, z⟩)) (fun z => hd (.inr (.inl z))) (fun xs z => hd (.inr (.inr (.inl ⟨xs, z⟩)))) (fun xs => ⟨fun z => hd (.inr (.inr (.inr ⟨xs, .inl z⟩))), fun z => hd (.inr (.inr (.inr ⟨xs, .inr z⟩)))⟩)
        have nap : a ≠ p := ne_of_none hh hp
        refine h.mono hi (fun _ _ z => z) (fun _ _ hn => hn) (fun b u hb hu => ?_) (fun z => by rw [List.getElem?_set_ne (Ne.symm q)]; exact z)
        rw [ha] at hb; cases hb
        rw [upd_ne nap]; exact hu
  · rw [upd_ne (ne_of_none e hp)]
    exact e
  · rcases back k a e with z | ⟨_, rfl⟩
    · exact .inl z
    · exact .inr hp
  · by_cases hb : b = p
    · subst hb; exact hp
    · rw [upd_ne hb] at e; exact e
theorem Sta.layT (st : Sta K io F S H) {p : Addr} {vs : List V} {xs : List P} (hp : H p = none) (r : RepL K F xs vs) :
    Sta K (io ++ [some p]) (upd F p (.tup vs)) (S ++ [.tup xs]) (upd H p (.tup vs)) ∧ Nxt io F H (io ++ [some p]) (upd F p (.tup vs)) (upd H p (.tup vs)) := by
  obtain ⟨s1, n1⟩ := st.froze (o := .tup vs) hp
  have np := st.notIn hp
  have hi : ∀ (k : Nat) (a : Addr), io[k]? = some (some a) → (io ++ [some p])[k]? = some (some a) := fun k a e => by
    rw [List.getElem?_append_left (List.getElem?_eq_some_iff.mp e).1]
    exact e
  have back : ∀ (k : Nat) (a : Addr), (io ++ [some p])[k]? = some (some a) → io[k]? = some (some a) ∨ (k = io.length ∧ a = p) := fun k a e => by
    rw [List.getElem?_append] at e
    split at e
    · exact .inl e
    · rename_i hk
      have hk2 : k - io.length = 0 := by
        have := (List.getElem?_eq_some_iff.mp e).1
        simp at this
        omega
      rw [hk2] at e
      have e' : p = a := by simpa using e
      exact .inr ⟨by omega, e'.symm⟩
  refine ⟨⟨by rw [List.length_append, List.length_append, st.len]; rfl, fun j k a h1 h2 => ?_, s1.sub, fun k a e z => ?_, fun k d e => ?_⟩, ⟨hi, n1.fr, n1.out, fun k a e => ?_, n1.stay, n1.nf⟩⟩
  · rcases back j a h1 with z | ⟨rfl, z⟩
    · rcases back k a h2 with y | ⟨rfl, y⟩
      · exact st.inj j k a z y
      · subst y; exact absurd z (np j)
    · rcases back k a h2 with y | ⟨rfl, y⟩
      · subst z; exact absurd y (np k)
      · rfl
  · rcases back k a e with y | ⟨rfl, y⟩
    · exact s1.trk k a y z
    · subst y; rw [upd_same] at z; cases z
  · rw [List.getElem?_append] at e
    split at e
    · exact (s1.cel k d e).mono hi (fun _ _ z => z) (fun _ _ hn => hn) fun _ _ _ hu => hu
    · rename_i hk
      have hk2 : k - S.length = 0 := by
        have := (List.getElem?_eq_some_iff.mp e).1
        simp at this
        omega
      rw [hk2] at e
      have e' : Cell.tup xs = d := by simpa using e
      subst e'
      have : k = io.length := by have := st.len; omega
      subst this
      exact ⟨p, vs, by simp, upd_same, RepL.mono n1.fr r⟩
  · rcases back k a e with z | ⟨_, rfl⟩
    · exact .inl z
    · exact .inr hp
end
def eTupT (a : MA) : ME := fun ρ S => (a ρ S).bind fun xs S1 => (frzs xs S1).bind fun ys S2 => if ys.length ≤ 100000 then .ok (.c S2.length) (S2 ++ [.tup ys]) else .bad
section
variable {X : Cx} {W : WX} {pos : Pos} {es : List Expr} {mas : MA}
theorem oe_tupT {k : Nat} (h : OA X W es mas) : OE X W (.Tuple es k pos) (eTupT mas) := by
  obtain ⟨t, p, h⟩ := h
  refine ⟨_, pe_tup p, fun ρ S io F σ H Q st en hw => ?_⟩
  refine h ρ S io F σ H _ st en (RG.bind hw fun d S1 io1 F1 H1 v e1 n1 s1 r1 h1 => ?_)
  obtain ⟨xs, S2, F2, n2, s2, rp, h2⟩ := s1.frzs r1 h1
  have hlen := rp.length
  by_cases hz : xs.length ≤ 100000
  · rw [if_pos hz] at h2
    refine ⟨by rw [hlen]; exact sz5 hz, fun q hq => ?_⟩
    obtain ⟨s3, n3⟩ := s2.layT hq rp
    have hi : (io1 ++ [some q])[S2.length]? = some (some q) := by rw [← s2.len]; simp
    exact h2 _ _ _ (.ref q) n3 s3 ⟨q, hi, rfl⟩
  · rw [if_neg hz] at h2
    exact h2.elim
end
def eLstR (i : Nat) (o : ME) : ME := fun ρ S => (o ρ S).bind fun d S1 => match d with
  | .c k => (match S1[k - i]? with
    | some .res => .ok (.c (k - i)) (S1.set (k - i) (.lst []))
    | _ => .bad)
  | _ => .bad
def eDctR (i : Nat) (o : ME) : ME := fun ρ S => (o ρ S).bind fun d S1 => match d with
  | .c k => (match S1[k - i]? with
    | some .res => .ok (.c (k - i)) (S1.set (k - i) (.dcT [] []))
    | _ => .bad)
  | _ => .bad
def Idle (m : ME) : Prop := ∀ ρ S, m ρ S = .bad ∨ ∃ d, m ρ S = .ok d S
theorem idle_var (i : Nat) : Idle (eVar i) := fun ρ S => by
  unfold eVar
  split
  · exact .inr ⟨_, rfl⟩
  · exact .inl rfl
section
variable {X : Cx} {W : WX} {pos : Pos} {mo : ME}
theorem oe_lstR (i : Nat) (hm : Idle mo) : OE X W (.List [] pos) (eLstR i mo) := by
  refine ⟨_, pe_lst pa_nil, fun ρ S io F σ H Q st en hw => ?_⟩
  rcases hm ρ S with e | ⟨d, e⟩
  · unfold eLstR at hw; rw [e] at hw; exact hw.elim
  · unfold eLstR at hw
    rw [e] at hw
    cases d with
    | p x => exact hw.elim
    | c k =>
      have hw : RG X.K (RepA X.K) (match S[k - i]? with
        | some .res => .ok (.c (k - i)) (S.set (k - i) (.lst []))
        | _ => .bad) io F H Q _ := hw
      split at hw
      · rename_i hk
        refine ⟨Nat.zero_le _, fun q hq => ?_⟩
        have hj : k - i < io.length := by rw [st.len]; exact (List.getElem?_eq_some_iff.mp hk).1
        have hi : (io.set (k - i) (some q))[k - i]? = some (some q) := List.getElem?_set_self hj
        obtain ⟨s3, n3⟩ := st.fill (o := .lst []) (c := .lst []) hk hq ⟨q, [], hi, Same.free st.sub hq, upd_same, .nil⟩
        exact hw _ _ _ (.ref q) n3 s3 ⟨q, hi, rfl⟩
      · exact hw.elim
theorem oe_dctR (i : Nat) (hm : Idle mo) : OE X W (.Dict [] [] pos) (eDctR i mo) := by
  refine ⟨_, pe_dnewT, fun ρ S io F σ H Q st en hw => ?_⟩
  rcases hm ρ S with e | ⟨d, e⟩
  · unfold eDctR at hw; rw [e] at hw; exact hw.elim
  · unfold eDctR at hw
    rw [e] at hw
    cases d with
    | p x => exact hw.elim
    | c k =>
      have hw : RG X.K (RepA X.K) (match S[k - i]? with
        | some .res => .ok (.c (k - i)) (S.set (k - i) (.dcT [] []))
        | _ => .bad) io F H Q _ := hw
      split at hw
      · rename_i hk
        intro q hq
        have hj : k - i < io.length := by rw [st.len]; exact (List.getElem?_eq_some_iff.mp hk).1
        have hi : (io.set (k - i) (some q))[k - i]? = some (some q) := List.getElem?_set_self hj
        obtain ⟨s3, n3⟩ := st.fill (o := .dT []) (c := .dcT [] []) hk hq ⟨q, [], hi, Same.free st.sub hq, upd_same, rfl, .nil⟩
        exact hw _ _ _ (.ref q) n3 s3 ⟨q, hi, rfl⟩
      · exact hw.elim
end
def eMakeR (r : Nat) (c : Str) (m : MF) : ME := fun _ S => mkO true c m [] (S ++ List.replicate r .res)
section
variable {X : Cx} {W : WX} {x : Str} {p pos : Pos} {params : Arguments} {ps : List Str} {k j : Nat} {m : MF}
theorem oe_makeR (r : Nat) (G : GC X.prog X.w X.K X.mg X.base x params ps k m) (hr : RoomG j X.A) (hk : k + 1 ≤ j) (tk : Takes X W) (hg : Gl X x := by rfl)
    (hdb : (x == ("__debug__" : Str)) = false := by decide) : OE X W (.Call (.Name x p) [] [] pos) (eMakeR r x m) := by
  obtain ⟨fd, F, hb, _⟩ := G.fn
  refine ⟨fun σ H Q => ∀ y dx, H y = none → H dx = none → dx ≠ y → spM X.K m [.ref y] (upd (upd H dx (.own y)) y (.ins (He.ga X.K x) dx [])) (fun v H2 => v = .non ∧ Q (.ref y) H2) (WE W σ), ⟨fun pins s σ H Q I h => ?_⟩, fun ρ S io F σ H Q st en h => ?_⟩
  · refine wpAny_Call_Name_kw (ld_glob I hg G.gl ?_ hdb)
    exact PySem.W.callWith_K0 I.kIn G.mkr.kp (run_makeS (us := []) (vs := []) (E := WE W) G.mkr F (hr.mono hk) hb (passAt tk σ) I .nil h)
  · obtain ⟨s1, n1⟩ := st.keeps r
    exact fun y dx hy hd ne => mkO_sp s1 (ds := []) (vs := []) rfl (RG.step n1 h) y dx hy hd ne
end
def kyOf : P → Option (Int ⊕ List Nat)
  | .int i => some (.inl i)
  | .str x => some (.inr x)
  | _ => none
def kysOf : List P → Option (List (Int ⊕ List Nat))
  | [] => some []
  | x :: xs => (kyOf x).bind fun a => (kysOf xs).map (a :: ·)
def atKy {A : Type} (k : List (Int ⊕ List Nat)) : List (List (Int ⊕ List Nat)) → List A → Option A
  | a :: ks, x :: xs => if a = k then some x else atKy k ks xs
  | _, _ => none
theorem strOf_inj {x y : List Nat} (h : strOf x = strOf y) : x = y := by
  have := congrArg (fun s : Str => s.cps.toList) h
  simpa [strOf] using this
theorem kk_inj {a b : Int ⊕ List Nat} (h : kk a = kk b) : a = b := by
  cases a <;> cases b <;> first
    | (cases h; rfl)
    | (have := Sum.inr.inj h; rw [strOf_inj this])
    | cases h
theorem kks_inj : ∀ {a b : List (Int ⊕ List Nat)}, a.map kk = b.map kk → a = b
  | [], [], _ => rfl
  | [], _ :: _, h => by cases h
  | _ :: _, [], h => by cases h
  | x :: a, y :: b, h => by
    have h := List.cons.inj h
    rw [kk_inj h.1, kks_inj h.2]
theorem kys_rep {K : PySem.W.Frag} {F : Hp} : ∀ {xs : List P} {vs : List V} {k : List (Int ⊕ List Nat)}, RepL K F xs vs → kysOf xs = some k → vs = (k.map kk).map kV
  | [], vs, k, r, e => by
    have r : vs = [] := r
    cases e
    exact r
  | x :: xs, vs, k, ⟨v, r, e1, h1, h2⟩, e => by
    have e : ((kyOf x).bind fun a => (kysOf xs).map (a :: ·)) = some k := e
    cases hx : kyOf x with
    | none => rw [hx] at e; cases e
    | some a =>
      rw [hx] at e
      have e : (kysOf xs).map (a :: ·) = some k := e
      cases hs : kysOf xs with
      | none => rw [hs] at e; cases e
      | some ks =>
        rw [hs] at e
        cases e
        rw [e1, kys_rep h2 hs]
        have hv : v = kV (kk a) := by
          cases x <;> first
            | (cases hx; done)
            | (cases hx; exact h1)
        rw [hv]
        rfl
theorem valV_at : ∀ (ks : List (List (Int ⊕ List Nat))) (ws : List V) (k : List (Int ⊕ List Nat)), ks.length = ws.length → valV ((ks.map (List.map kk)).zip ws) (k.map kk) = atKy k ks ws
  | [], [], k, _ => rfl
  | [], _ :: _, k, h => by cases h
  | _ :: _, [], k, h => by cases h
  | a :: ks, w :: ws, k, h => by
    have ih := valV_at ks ws k (by simpa using h)
    unfold valV at ih ⊢
    show ((((a.map kk, w) :: (ks.map (List.map kk)).zip ws).find? fun kv => decide (kv.1 = k.map kk)).map (·.2)) = _
    unfold atKy
    by_cases q : a = k
    · subst q
      rw [if_pos rfl, List.find?_cons_of_pos (by simp)]
      rfl
    · rw [if_neg q, List.find?_cons_of_neg (by simp; exact fun z => q (kks_inj z))]
      exact ih
theorem atKy_rep {K : PySem.W.Frag} {F : Hp} {k : List (Int ⊕ List Nat)} : ∀ {ks : List (List (Int ⊕ List Nat))} {xs : List P} {ws : List V}, RepL K F xs ws → (atKy k ks xs = none ∧ atKy k ks ws = none) ∨ ∃ x w, atKy k ks xs = some x ∧ atKy k ks ws = some w ∧ Rep K F x w
  | [], xs, ws, r => by
    left
    cases xs <;> cases ws <;> exact ⟨rfl, rfl⟩
  | a :: ks, [], ws, r => by
    have r : ws = [] := r
    subst r
    exact .inl ⟨rfl, rfl⟩
  | a :: ks, x :: xs, ws, ⟨w, t, e1, h1, h2⟩ => by
    subst e1
    unfold atKy
    by_cases q : a = k
    · rw [if_pos q, if_pos q]
      exact .inr ⟨x, w, rfl, rfl, h1⟩
    · rw [if_neg q, if_neg q]
      exact atKy_rep h2
theorem atKy_some {A B : Type} {k : List (Int ⊕ List Nat)} {ks : List (List (Int ⊕ List Nat))} {xs : List A} {ws : List B} (h : xs.length = ws.length) : (atKy k ks xs).isSome = (atKy k ks ws).isSome := by
  induction ks generalizing xs ws with
  | nil => cases xs <;> cases ws <;> rfl
  | cons a ks ih =>
    cases xs with
    | nil => cases ws with
      | nil => rfl
      | cons w ws => cases h
    | cons x xs => cases ws with
      | nil => cases h
      | cons w ws =>
        unfold atKy
        by_cases q : a = k
        · rw [if_pos q, if_pos q]; rfl
        · rw [if_neg q, if_neg q]; exact ih (by simpa using h)
def dKey (S : Sto) : Vl → Option (List (Int ⊕ List Nat))
  | .c i => (match S[i]? with
    | some (.tup xs) => kysOf xs
    | _ => none)
  | _ => none
theorem Sta.key {K : PySem.W.Frag} {io : Io} {F H : Hp} {S : Sto} (st : Sta K io F S H) {d : Vl} {v : V} {k : List (Int ⊕ List Nat)} (r : RepV K io F d v) (h : dKey S d = some k) : ∃ b, v = .ref b ∧ H b = some (.tup ((k.map kk).map kV)) := by
  cases d with
  | p x => cases h
  | c i =>
    unfold dKey at h
    dsimp only at h
    split at h
    · rename_i xs hi
      obtain ⟨a, ha, rfl⟩ := r
      obtain ⟨b, vs, hb, hF, hr⟩ := st.cel i _ hi
      rw [ha] at hb
      cases hb
      have := kys_rep hr h
      subst this
      exact ⟨a, rfl, st.sub _ _ hF⟩
    · cases h
theorem Sta.dict {K : PySem.W.Frag} {io : Io} {F H : Hp} {S : Sto} (st : Sta K io F S H) {j : Nat} {v : V} {ks : List (List (Int ⊕ List Nat))} {xs : List P} (r : RepV K io F (.c j) v) (h : S[j]? = some (.dcT ks xs)) :
    ∃ a ws, v = .ref a ∧ io[j]? = some (some a) ∧ F a = none ∧ H a = some (.dT ((ks.map (List.map kk)).zip ws)) ∧ ks.length = ws.length ∧ RepL K F xs ws := by
  obtain ⟨a, ha, rfl⟩ := r
  obtain ⟨b, ws, hb, hF, hH, hl, hr⟩ := st.cel j _ h
  rw [ha] at hb
  cases hb
  exact ⟨a, ws, rfl, ha, hF, hH, hl, hr⟩
def dHas (S : Sto) (d e : Vl) : Option Bool := match dKey S d, e with
  | some k, .c j => (match S[j]? with
    | some (.dcT ks xs) => some (atKy k ks xs).isSome
    | _ => none)
  | _, _ => none
def eNotInT (a b : ME) : ME := fun ρ S => (a ρ S).bind fun d S1 => (b ρ S1).bind fun e S2 => match dHas S2 d e with
  | some t => .ok (.p (.bl (!t))) S2
  | none => .bad
def dAt (S : Sto) (d e : Vl) : Option P := match dKey S d, e with
  | some k, .c j => (match S[j]? with
    | some (.dcT ks xs) => atKy k ks xs
    | _ => none)
  | _, _ => none
def eItemT (o i : ME) : ME := fun ρ S => (o ρ S).bind fun e S1 => (i ρ S1).bind fun d S2 => match dAt S2 d e with
  | some x => .ok (.p x) S2
  | none => .bad
def dPut (S : Sto) (d e : Vl) (x : P) : Option Sto := match dKey S d, e with
  | some k, .c j => (match S[j]? with
    | some (.dcT ks xs) => if atKy k ks xs = none ∧ ks.length < 100000 then some (S.set j (.dcT (ks ++ [k]) (xs ++ [x]))) else none
    | _ => none)
  | _, _ => none
def sPutT (v o i : ME) : MS := fun ρ S => (v ρ S).go ρ fun d S1 => (o ρ S1).go ρ fun e S2 => (i ρ S2).go ρ fun y S3 => (frz d S3).go ρ fun x S4 => match dPut S4 y e x with
  | some S5 => .ok (.nx ρ) S5
  | none => .bad
theorem Sta.has {K : PySem.W.Frag} {io : Io} {F H : Hp} {S : Sto} (st : Sta K io F S H) {d e : Vl} {v w : V} {t : Bool} (r : RepV K io F d v) (r2 : RepV K io F e w) (h : dHas S d e = some t) : ∃ a o, w = .ref a ∧ DGet H a v o ∧ o.isSome = t := by
  unfold dHas at h
  split at h
  · rename_i k j hk
    split at h
    · rename_i ks xs hj
      cases h
      obtain ⟨b, rfl, hb⟩ := st.key r hk
      obtain ⟨a, ws, rfl, ha, hF, hH, hl, hr⟩ := st.dict r2 hj
      refine ⟨a, _, rfl, DGet.t hH hb, ?_⟩
      rw [valV_at ks ws k hl]
      exact (atKy_some hr.length.symm).symm
    · cases h
  · cases h
section
variable {X : Cx} {W : WX} {a b i o v : Expr} {ma mb mi mo mv : ME} {pos pos' : Pos} {k : Nat}
theorem un1 {A : Around} (hr : Room k A) : A.units + 1 < cLine := by
  have := hr.units
  omega
theorem ot_notInT (hr : Room k X.A) (ha : OE X W a ma) (hb : OE X W b mb) (hm : behindInMarks .NotIn b = false := by rfl) : OT X W (.Compare a [.NotIn] [b] pos) (tVal (eNotInT ma mb)) := by
  obtain ⟨t, p, ha⟩ := ha
  obtain ⟨u, q, hb⟩ := hb
  refine ⟨_, pt_cmp (pc_dnotin (un1 hr) p q) hm, fun ρ S io F σ H Q st en h => ?_⟩
  have h : RG X.K RepB ((ma ρ S).bind fun d S1 => (mb ρ S1).bind fun e S2 => match dHas S2 d e with
    | some t => Res.ok (!t) S2
    | none => .bad) io F H Q (fun c d H' => W c d σ H') := by
    unfold tVal eNotInT at h
    cases q : ma ρ S with
    | bad => rw [q] at h; exact h
    | exc c x S1 => rw [q] at h; exact h
    | ok d S1 =>
      rw [q] at h
      have h : RG X.K RepB (((mb ρ S1).bind fun e S2 => match dHas S2 d e with
        | some t => Res.ok (Vl.p (.bl (!t))) S2
        | none => .bad).bind tst) io F H Q (fun c d H' => W c d σ H') := h
      show RG X.K RepB ((mb ρ S1).bind fun e S2 => match dHas S2 d e with
        | some t => Res.ok (!t) S2
        | none => .bad) io F H Q _
      cases q2 : mb ρ S1 with
      | bad => rw [q2] at h; exact h
      | exc c x S1 => rw [q2] at h; exact h
      | ok e S2 =>
        rw [q2] at h
        have h : RG X.K RepB ((match dHas S2 d e with
          | some t => Res.ok (Vl.p (.bl (!t))) S2
          | none => .bad).bind tst) io F H Q (fun c d H' => W c d σ H') := h
        show RG X.K RepB (match dHas S2 d e with
          | some t => Res.ok (!t) S2
          | none => .bad) io F H Q _
        cases q3 : dHas S2 d e with
        | none => rw [q3] at h; exact h
        | some t => rw [q3] at h; exact h
  refine ha ρ S io F σ H _ st en (RG.bind h fun d S1 io1 F1 H1 v e1 n1 s1 r1 h1 => ?_)
  refine hb ρ S1 io1 F1 σ H1 _ s1 (en.nxt n1) (RG.bind h1 fun e S2 io2 F2 H2 w e2 n2 s2 r2 h2 => ?_)
  cases hd : dHas S2 d e with
  | none => rw [hd] at h2; exact h2.elim
  | some x =>
    rw [hd] at h2
    obtain ⟨a, o, rfl, g, rfl⟩ := s2.has (r1.mono n2.han n2.fr) r2 hd
    exact ⟨a, o, rfl, g, !o.isSome, rfl, RG.val (R := RepB) (d := !o.isSome) s2 rfl h2⟩
theorem oe_itemT (hr : Room k X.A) (ho : OE X W o mo) (hi : OE X W i mi) (hs : NoSl i := by exact fun _ _ => rfl) : OE X W (.Subscript o i pos) (eItemT mo mi) := by
  obtain ⟨t, p, ho⟩ := ho
  obtain ⟨u, q, hi⟩ := hi
  refine ⟨_, pe_dget (un1 hr) p q hs, fun ρ S io F σ H Q st en h => ?_⟩
  refine ho ρ S io F σ H _ st en (RG.bind h fun e S1 io1 F1 H1 v e1 n1 s1 r1 h1 => ?_)
  refine hi ρ S1 io1 F1 σ H1 _ s1 (en.nxt n1) (RG.bind h1 fun d S2 io2 F2 H2 w e2 n2 s2 r2 h2 => ?_)
  cases hd : dAt S2 d e with
  | none => rw [hd] at h2; exact h2.elim
  | some x =>
    rw [hd] at h2
    unfold dAt at hd
    split at hd
    · rename_i k j hk
      split at hd
      · rename_i ks xs hj
        obtain ⟨b, rfl, hb⟩ := s2.key r2 hk
        obtain ⟨a, ws, rfl, ha, hF, hH, hl, hr⟩ := s2.dict (r1.mono n2.han n2.fr) hj
        rcases atKy_rep (k := k) (ks := ks) hr with ⟨z, _⟩ | ⟨x', w', z1, z2, rp⟩
        · rw [hd] at z; cases z
        · rw [hd] at z1
          cases z1
          refine ⟨a, w', rfl, ?_, RG.val (R := RepA X.K) (d := .p x) s2 rp h2⟩
          have g := DGet.t hH hb
          rw [valV_at ks ws k hl, z2] at g
          exact g
      · cases hd
    · cases hd
theorem putK_new {ks : List (List (Int ⊕ List Nat))} {ws : List V} {k : List (Int ⊕ List Nat)} {w : V} (hl : ks.length = ws.length) (h : atKy k ks ws = none) : putK ((ks.map (List.map kk)).zip ws) (k.map kk) w = ((ks ++ [k]).map (List.map kk)).zip (ws ++ [w]) := by
  have e : (((ks.map (List.map kk)).zip ws).any fun kv => decide (kv.1 = k.map kk)) = false := by
    have hv := valV_at ks ws k hl
    rw [h] at hv
    unfold valV at hv
    rw [Option.map_eq_none_iff, List.find?_eq_none] at hv
    rw [List.any_eq_false]
    exact hv
  unfold putK
  rw [e, if_neg (by decide), List.map_append, List.zip_append (by rw [List.length_map]; exact hl)]
  rfl
theorem os_putT (hr : Room k X.A) (ho : OE X W o mo) (hi : OE X W i mi) (hv : OE X W v mv) (hs : swapsWith v (some (.Subscript o i pos')) pos.line X.env = pure false := by rfl) : OS X W (.Assign [.Subscript o i pos'] v pos) (sPutT mv mo mi) := by
  obtain ⟨t, p, ho⟩ := ho
  obtain ⟨u, q, hi⟩ := hi
  obtain ⟨u2, q2, hv⟩ := hv
  refine ⟨_, ps_dput (un1 hr) p q q2 hs, fun ρ S io F σ H D st en h => ?_⟩
  refine hv ρ S io F σ H _ st en (RS.go (R := RepA X.K) en h fun d S1 io1 F1 H1 v e1 n1 s1 r1 h1 => ?_)
  refine ho ρ S1 io1 F1 σ H1 _ s1 (en.nxt n1) (RS.go (R := RepA X.K) (en.nxt n1) h1 fun e S2 io2 F2 H2 w e2 n2 s2 r2 h2 => ?_)
  refine hi ρ S2 io2 F2 σ H2 _ s2 ((en.nxt n1).nxt n2) (RS.go (R := RepA X.K) ((en.nxt n1).nxt n2) h2 fun y S3 io3 F3 H3 w3 e3 n3 s3 r3 h3 => ?_)
  cases hf : frz d S3 with
  | bad => rw [hf] at h3; exact h3.elim
  | exc c x S4 => exact absurd hf (frz_nox _ _ _ _ _)
  | ok x S4 =>
    rw [hf] at h3
    have rd3 := (r1.mono n2.han n2.fr).mono n3.han n3.fr
    obtain ⟨x', Sd', F4, n4, s4, rp, hz4, _⟩ := s3.frz (C := Vl) (D := V) (R' := RepA X.K) (g := fun _ S => .ok (.p .non) S) (Q := fun _ _ => True) (E := fun _ _ _ => True) rd3 (by rw [hf]; exact fun _ _ _ _ _ _ _ => trivial)
    rw [hf] at hz4; cases hz4
    have h3 : RS X.K (match dPut S4 y e x with
      | some S5 => .ok (.nx ρ) S5
      | none => .bad) io3 F3 H3 D W := h3
    cases hd : dPut S4 y e x with
    | none => rw [hd] at h3; exact h3.elim
    | some S5 =>
      rw [hd] at h3
      unfold dPut at hd
      split at hd
      · rename_i ky j hk
        split at hd
        · rename_i ks xs hj
          split at hd
          · rename_i hc
            cases hd
            obtain ⟨b, rfl, hb⟩ := s4.key (r3.mono n4.han n4.fr) hk
            obtain ⟨a, ws, rfl, ha, hF, hH, hl, hrl⟩ := s4.dict ((r2.mono n3.han n3.fr).mono n4.han n4.fr) hj
            have hw : atKy ky ks ws = none := by
              rcases atKy_rep (k := ky) (ks := ks) hrl with ⟨_, z⟩ | ⟨x', w', z1, _, _⟩
              · exact z
              · rw [hc.1] at z1; cases z1
            have hlen : ((ks.map (List.map kk)).zip ws).length < sizeLine := by
              rw [List.length_zip, List.length_map, ← hl, Nat.min_self]
              exact sz5l hc.2
            refine ⟨a, _, rfl, DPut.t hH hb hlen, ?_⟩
            rw [putK_new hl hw]
            obtain ⟨s5, n5⟩ := s4.write (o := .dT (((ks ++ [ky]).map (List.map kk)).zip (ws ++ [v]))) (c := .dcT (ks ++ [ky]) (xs ++ [x])) ha hF ⟨a, ws ++ [v], ha, hF, upd_same, by rw [List.length_append, List.length_append, hl]; rfl, hrl.append (.cons rp .nil)⟩
            exact h3 _ _ _ σ (n4.trans n5) s5 ((((en.nxt n1).nxt n2).nxt n3).nxt (n4.trans n5))
          · cases hd
        · cases hd
      · cases hd
end
theorem fn_bad {P : Program} {w : World} {K : PySem.W.Frag} {mg : Str → Option Value} {base : Heap} {k : Nat} {f : Addr} {fd : FuncData} {ps : List Str} : FnG P w K mg base k f fd ps (spM K fun _ _ => .bad) :=
  ⟨fun _ _ _ _ ⟨_, _, _, _, _, _, h⟩ => h.elim, fun _ _ _ _ _ _ _ _ _ _ _ _ _ ⟨_, _, _, _, _, _, h⟩ => h.elim⟩
end Mir

namespace Mir
open PySem L2
theorem Nxt.beside {io io1 : Io} {F F1 H H1 : Hp} {p : Addr} {o : HO} (hp : H p = none) (n : Nxt io F (upd H p o) io1 F1 H1) : Nxt io F H io1 F1 H1 where
  han := n.han
  fr := n.fr
  out := fun a u e q => n.out a u (by rw [upd_ne (ne_of_none e hp)]; exact e) q
  new := fun k a e => by
    rcases n.new k a e with z | z
    · exact .inl z
    · right
      by_cases h : a = p
      · subst h; exact hp
      · rw [upd_ne h] at z; exact z
  stay := fun a e => by
    have := n.stay a e
    by_cases h : a = p
    · subst h; exact hp
    · rw [upd_ne h] at this; exact this
  nf := fun a e => by
    rcases n.nf a e with z | z | z
    · exact .inl z
    · by_cases h : a = p
      · subst h; exact .inr (.inl hp)
      · rw [upd_ne h] at z; exact .inr (.inl z)
    · exact .inr (.inr z)
section
variable {X : Cx} {W : WX} {e : Expr} {m : ME} {k : Nat} {p1 p2 p3 p4 dpos pos : Pos} {j1 j2 j3 j4 : Nat} {x1 x2 x3 x4 : Str} {a b c d : List Nat}
end
end Mir

namespace Mir
open PySem L2 PyProof.Rows
open AutoSeq1 (wpAny_loadPart')
section
variable {prog : Program} {w : World} {A : Around} {E : Value → Shared → Prop} {s : Shared}
end
section
variable {prog : Program} {w : World} {A : Around} {E : Value → Shared → Prop} {s : Shared}
end
section
variable {X : Cx} {W : WX} {a : Expr} {ma : ME} {p pos tpos : Pos}
end
end Mir

namespace Mir
open PySem L2
def eTIdx (xs : List P) (m : ME) : ME := fun ρ S => (m ρ S).bind fun d S1 => match d with
  | .p (.str y) => match idxP (.str y) xs 0 with
    | some i => .ok (.p (.int (i : Nat))) S1
    | none => .bad
  | _ => .bad
def isStrP : P → Bool
  | .str _ => true
  | _ => false
def tupB (K : PySem.W.Frag) (x : Str) (ps : List P) : Bool := match PySem.W.nsIn K mainGlobals x with
  | some (some (.ref a)) => match K.lookup a with
    | some ⟨.type c, none, .seq its n, sl⟩ => decide (c = "tuple") && (repK K (.tup ps) (.ref a) && ps.all isStrP)
    | _ => false
  | _ => false
def TupC (K : PySem.W.Frag) (mg : Str → Option Value) (x : Str) (ps : List P) : Prop :=
  ∃ a o, mg x = some (.ref a) ∧ K.lookup a = some o ∧ o.cls = .type "tuple" ∧ o.dict = none ∧ (∀ F, Rep K F (.tup ps) (.ref a)) ∧ ps.all isStrP = true
theorem tupB_ok {K : PySem.W.Frag} {h : Heap} {mg : Str → Option Value} (X : K.In h) (G : h.Ns mainGlobals mg) {x : Str} {ps : List P} (c : tupB K x ps = true) : TupC K mg x ps := by
  unfold tupB at c
  split at c
  · rename_i a e
    split at c
    · rename_i cc its n sl q
      obtain ⟨c1, c⟩ := He.ba c
      obtain ⟨c2, c3⟩ := He.ba c
      obtain ⟨v, r, hp⟩ := repK_ok c2
      have : v = .ref a := by
        obtain ⟨b, vs, e, _⟩ := hp (fun _ => none)
        subst e
        cases r
        rfl
      subst this
      exact ⟨a, _, PySem.W.mg_of X G e, q, congrArg Value.type (of_decide_eq_true c1), rfl, hp, c3⟩
    · cases c
  · cases c
theorem strs_of {K : PySem.W.Frag} {F : Hp} : ∀ {ps : List P} {vs : List V}, ps.all isStrP = true → RepL K F ps vs → ∃ ys : List (List Nat), ps = ys.map P.str ∧ vs = (ys.map strOf).map V.str
  | [], _, _, r => by
    have r : _ = _ := r
    subst r; exact ⟨[], rfl, rfl⟩
  | .str y :: ps, _, h, r => by
    obtain ⟨v, vs, rfl, r, t⟩ := r
    obtain ⟨ys, e1, e2⟩ := strs_of (ps := ps) (by simpa [isStrP] using h) t
    have r : _ = _ := r
    subst r e1 e2
    exact ⟨y :: ys, rfl, rfl⟩
theorem idxP_str {y : List Nat} : ∀ {ys : List (List Nat)} {i j : Nat}, idxP (.str y) (ys.map P.str) i = some j → ∃ n, j = i + n ∧ ys[n]? = some y ∧ ∀ m, m < n → ys[m]? ≠ some y
  | [], _, _, h => by cases h
  | x :: ys, i, j, h => by
    have h : (if (P.str x).eqv (.str y) then some i else idxP (.str y) (ys.map P.str) (i + 1)) = some j := h
    have hx : (P.str x).eqv (.str y) = decide (x = y) := by
      by_cases z : x = y
      · subst z; simp [P.eqv]
      · simp [P.eqv, z]
    rw [hx] at h
    by_cases z : x = y
    · subst z
      rw [if_pos (by simp)] at h
      cases h
      exact ⟨0, rfl, rfl, fun m hm => by omega⟩
    · rw [if_neg (by simpa using z)] at h
      obtain ⟨n, e, h1, h2⟩ := idxP_str h
      refine ⟨n + 1, by omega, by simpa using h1, fun m hm => ?_⟩
      cases m with
      | zero => simpa using z
      | succ m => simpa using h2 m (by omega)
section
variable {X : Cx} {W : WX} {a o : Expr} {ma mo : ME} {apos pos p : Pos}
theorem oe_tidx {x : Str} {ps : List P} (hc : TupC X.K X.mg x ps) (ha : OE X W a ma) (hg : Gl X x := by rfl) (hd : (x == ("__debug__" : Str)) = false := by decide) (hbase : attributeBase (.Name x p) "index" X.env (eval (.Name x p) X.env) = eval (.Name x p) X.env := by rfl) (hs : starEach [a] X.env = (false, eval a X.env) :: starEach [] X.env := by rfl) (hline : (apos.endLine == pos.line) = true := by rfl)
    (hfew : ((backTo pos (starEach [a] X.env)).all (fun x => !x.1) && (backToKw pos (keywordEach [] X.env)).all (fun x => x.1.isSome) && decide (([a] : List Expr).length + ([] : List Keyword).length + (if ([] : List Keyword).isEmpty then 0 else 1) < 30)) = true := by rfl) :
    OE X W (.Call (.Attribute (.Name x p) "index" apos) [a] [] pos) (eTIdx ps ma) := by
  obtain ⟨b, ob, hm, hk, h1, h2, hr, hp⟩ := hc
  obtain ⟨t, q, h⟩ := ha
  refine ⟨_, pe_bm PySem.F.plainAttrs_tuple PySem.F.slot_tuple_index PySem.F.type_tuple_index mt_tup_index (pe_glob (v := .ref b) hg hm rfl hd) (pa_cons q pa_nil hs) hbase hfew hline hs rfl, fun ρ S io F σ H Q st en hw => ?_⟩
  refine ⟨.inr (.inl ⟨rfl, ob, hk, h1, h2⟩), ?_⟩
  refine h ρ S io F σ H _ st en (RG.bind hw fun d S1 io1 F1 H1 v e1 n1 s1 r1 h1 => ?_)
  cases d with
  | c k => exact h1.elim
  | p d =>
    cases d with
    | str y =>
      have r1 : v = .str (strOf y) := r1
      subst r1
      dsimp only at h1
      cases e : idxP (.str y) ps 0 with
      | none => rw [e] at h1; exact h1.elim
      | some j =>
        rw [e] at h1
        dsimp only at h1
        obtain ⟨a', vs, ea, hq, rl⟩ := hr F1
        cases ea
        obtain ⟨ys, e1, e2⟩ := strs_of hp rl
        subst e1 e2
        obtain ⟨n, en, hn1, hn2⟩ := idxP_str e
        have en : j = n := by omega
        subst en
        refine ⟨b, ys.map strOf, strOf y, j, rfl, rfl, sqt_mono s1.sub hq, by simp [hn1], fun m hm hz => ?_, RG.val (R := RepA X.K) (d := .p (.int (j : Nat))) s1 rfl h1⟩
        rw [List.getElem?_map] at hz
        cases z : ys[m]? with
        | none => rw [z] at hz; cases hz
        | some u =>
          rw [z] at hz
          have hz : strOf u = strOf y := Option.some.inj hz
          exact hn2 m hm (by rw [z, strOf_inj hz])
    | _ => exact h1.elim
end
end Mir

namespace Mir
open PySem L2
section
variable {K : PySem.W.Frag}
end
section
variable {X : Cx} {W : WX} {a : Expr} {ma : ME} {pos p : Pos}
end
end Mir

namespace Mir
open PySem L2 PyProof.Rows
section
variable {X : Cx} {W : WX} {a b : Expr} {ma mb : ME} {p pos tpos : Pos}
end
end Mir

namespace Mir
open PySem L2
def eCut (m : ME) : ME := fun ρ S => (m ρ S).bind fun d S1 => (frz d S1).bind fun x S2 => .ok (.p x) (S2.take S.length)
theorem oe_cut {X : Cx} {W : WX} {a : Expr} {ma : ME} (h : OE X W a ma) : OE X W a (eCut ma) := by
  obtain ⟨t, q, h⟩ := h
  refine ⟨t, q, fun ρ S io F σ H Q st en hw => h ρ S io F σ H Q st en ?_⟩
  unfold eCut at hw
  cases e : ma ρ S with
  | bad => rw [e] at hw; exact hw
  | exc c d S1 => rw [e] at hw; exact hw
  | ok d S1 =>
    rw [e] at hw
    intro io1 F1 H1 v nx s1 r1
    have hw : RG X.K (RepA X.K) ((frz d S1).bind fun x S2 => .ok (.p x) (S2.take S.length)) io F H Q _ := hw
    obtain ⟨x, S2, F2, n2, s2, rp, hz, _⟩ := s1.frz r1 (RG.step nx hw)
    rw [hz] at hw
    exact hw (io1.take S.length) F2 H1 v ((nx.trans n2).cut st.len) (s2.cut _) rp
section
variable {X : Cx} {W : WX} {pos : Pos}
end
section
variable {X : Cx} {W : WX} {a b i o v f : Expr} {ma mb mi mo mv mf : ME} {pos pos' apos : Pos} {k : Nat}
end
section
variable {K : PySem.W.Frag}
end
section
variable {X : Cx} {W : WX} {a : Expr} {ma : ME} {pos p : Pos}
end
end Mir

namespace Mir
open PySem L2
section
variable {prog : Program} {w : World} {A : Around} {E : Value → Shared → Prop} {s : Shared}
end
section
variable {X : Cx} {W : WX} {a b : Expr} {ma mb : ME} {p p2 pos pos2 : Pos}
end
end Mir

namespace Mir
open PySem L2
section
variable {K : PySem.W.Frag}
end
section
variable {X : Cx} {W : WX} {a : Expr} {ma : ME} {pos p : Pos}
end
end Mir

namespace Mir
open PySem L2
section
variable {X : Cx} {W : WX} {a b : Expr} {ma mb : ME} {p p2 pos pos2 : Pos}
end
def gTpL (n : Nat) (r : MGs) : MG := fun d ρ S => match d with
  | .p (.lst xs) => if xs.length = n then r (xs.map Vl.p) ρ S else .bad
  | _ => .bad
section
variable {X : Cx} {W : WX} {pos : Pos}
theorem og_lst {es : List Expr} {k n : Nat} {js : List Nat} {r : MGs} (hc : X.calm = true) (h : OGs X W es js r) (hn : (assignEach es X.env).length = n := by rfl) (hst : (assignEach es X.env).findIdx? (·.1) = none := by rfl) : OG X W (.Tuple es k pos) js (gTpL n r) := by
  obtain ⟨t, p, h⟩ := h
  refine ⟨_, pg_unl hc p hn hst, fun d v ρ S io F σ H Q st en rv hw => ?_⟩
  cases d with
  | c k => exact hw.elim
  | p x =>
    cases x with
    | lst xs =>
      obtain ⟨a, vs, rfl, ha, ra⟩ := rv
      have hw : RG X.K (RepEn X.K js σ) (if xs.length = n then r (xs.map Vl.p) ρ S else .bad) io F H Q (fun c d H' => W c d σ H') := hw
      by_cases hl : xs.length = n
      · rw [if_pos hl] at hw
        exact ⟨a, vs, rfl, SqL.of (st.sub _ _ ha), by rw [ra.length]; exact hl, h _ vs ρ S io F σ H Q st en (RepVs.pure.mpr ra) hw⟩
      · rw [if_neg hl] at hw
        exact hw.elim
    | _ => exact hw.elim
end
end Mir

namespace NeK
open PySem PySem.Spec PyProof.Rows PySem.SeqAt
section
variable {M : Model} {prog : Program} {w : World} {A : Around} {E : Value → Shared → Prop} {s : Shared} {K : PySem.W.Frag} {x C f : Addr} {ox : Obj} {od : Option Obj} {b tb : Value}
end
end NeK
namespace Mir
open PySem L2
section
variable {X : Cx} {W : WX} {a b : Expr} {ma mb : ME} {x : Str} {pos : Pos} {params : Arguments} {ps : List Str} {k j : Nat} {m : MF}
end
end Mir
namespace Mir
open PySem L2
abbrev DTab := List (List Nat × P)
section
variable {X : Cx} {W : WX} {pos : Pos} {keys : List (Option Expr)} {values : List Expr}
end
def entsB (K : PySem.W.Frag) : List DictEntry → DTab → Bool
  | [], [] => true
  | e :: r, q :: t => (match e.key with
    | .str x _ => decide (x = strOf q.1)
    | _ => false) && (repK K q.2 e.val && entsB K r t)
  | _, _ => false
def tabB (K : PySem.W.Frag) (x : Str) (tab : DTab) : Bool := He.eqO (PySem.W.nsIn K mainGlobals x) (some (some (.ref (He.ga K x)))) && (match K.lookup (He.ga K x) with
  | some ⟨_, _, .dict es _, _⟩ => entsB K es.toList tab
  | _ => false)
section
variable {X : Cx} {W : WX} {i f : Expr} {mi mf : ME} {ti tf : TE} {x : Str} {p0 apos cpos pos : Pos} {d : Addr} {es : Array DictEntry} {n : Nat} {tab : DTab}
end
abbrev AlMT : Type := AlM × List (Option (List (Option (Str × Int))))
def obsMT (ck : PySem.W.Frag → Bool) (fn : List DefM) (ts : List He.Tab) (K : PySem.W.Frag) : AlMT := (obsM ck fn K, ts.map fun t => He.dicW K (t.1 K))
def valMT (fn : List DefM) (ts : List He.Tab) (w : World) : AlMT := (valM fn, ts.map fun t => some (He.keysIn w.params t.2))
def SaysMT (ck : PySem.W.Frag → Bool) (fn : List DefM) (ts : List He.Tab) (w : World) (K : PySem.W.Frag) : Prop := obsMT ck fn ts K = valMT fn ts w
section
variable {ck : PySem.W.Frag → Bool} {fn : List DefM} {ts : List He.Tab} {w : World} {K : PySem.W.Frag}
theorem SaysMT.m (c : SaysMT ck fn ts w K) : SaysM ck fn K := congrArg (fun z : AlMT => z.1) c
theorem SaysMT.tab (c : SaysMT ck fn ts w K) (i : Nat) {t : He.Tab} (h : ts[i]? = some t := by rfl) : ∃ es n, KDict K w (t.1 K) es n := by
  have e : ts.map (fun t => He.dicW K (t.1 K)) = ts.map fun t => some (He.keysIn w.params t.2) := congrArg (fun z : AlMT => z.2) c
  have e2 : (ts.map fun t => He.dicW K (t.1 K))[i]? = (ts.map fun t => some (He.keysIn w.params t.2))[i]? := by rw [e]
  rw [List.getElem?_map, List.getElem?_map, h] at e2
  exact He.dicW_ok (Option.some.inj e2)
end
end Mir

namespace Mir
open PySem L2
section
variable {X : Cx} {k : Nat}
end
section
variable {K : PySem.W.Frag}
end
section
variable {X : Cx} {W : WX} {a : Expr} {ma : ME} {pos p : Pos} {k : Nat}
end
end Mir

namespace EqM
open PySem PySem.Spec PyProof.Rows PySem.SeqAt
open AutoSeq1 (wpAny_loadPart')
section
variable {prog : Program} {w : World} {A : Around} {E : Value → Shared → Prop} {s : Shared} {K : PySem.W.Frag} {y C : Addr} {oy : Obj} {od : Option Obj}
end
end EqM

namespace EqM
open PySem PySem.Spec PyProof.Rows PySem.SeqAt
section
variable {prog : Program} {w : World} {A : Around} {E : Value → Shared → Prop} {s : Shared} {K : PySem.W.Frag} {y C f : Addr} {oy : Obj} {od : Option Obj}
end
end EqM

namespace Mir
open PySem L2
section
variable {X : Cx} {pins : List (Addr × Obj)} {σ : St} {H : Hp} {s : Shared}
end
section
variable {X : Cx} {W : WX} {a b : Expr} {ma mb : ME} {x : Str} {pos : Pos} {params : Arguments} {ps : List Str} {k j : Nat} {m : MF}
end
end Mir

namespace Mir
open PySem PySem.Spec PyProof.Rows L2
section
variable {X : Cx}
end
section
variable {X : Cx} {W : WX} {e : Expr} {me : ME}
end
def eDct0 : ME := fun _ S => .ok (.p (.dct [] [])) S
section
variable {X : Cx} {W : WX} {pos : Pos}
theorem oe_dct0 : OE X W (.Dict [] [] pos) eDct0 := by
  refine ⟨_, pe_dnewK, fun ρ S io F σ H Q st en hw => fun p hp => ?_⟩
  obtain ⟨s3, n3⟩ := st.froze (o := .dK []) hp
  exact hw _ _ _ (.ref p) n3 s3 ⟨p, [], rfl, upd_same, .nil, .nil⟩
end
section
variable {K : PySem.W.Frag}
end
section
variable {X : Cx} {W : WX} {a : Expr} {ma : ME} {pos p : Pos}
end
section
variable {X : Cx} {W : WX} {a : Expr} {ma : ME} {x : Str} {pos p : Pos} {params : Arguments} {ps : List Str} {k j : Nat} {m : MF}
end
end Mir

namespace Mir
open PySem L2
section
variable {X : Cx} {W : WX} {mks : MA} {x : Str} {p pos : Pos} {params : Arguments} {ps ks : List Str} {k j : Nat} {m : MF} {kws : List Keyword} {kp : Bool}
end
end Mir

namespace Mir
open PySem L2
section
variable {X : Cx} {pins : List (Addr × Obj)} {σ : St} {H F : Hp} {s : Shared}
end
section
variable {X : Cx} {W : WX} {pos : Pos}
end
end Mir

namespace Mir
open PySem L2
def DnAt (K : PySem.W.Frag) (η : NestedKey → Int) (H : Hp) (a : Addr) (es : List (NestedKey × Addr × V)) : Prop := ∃ F ks, Same F H ∧ H a = some (DNo η a es) ∧ nkL ks = some (es.map (·.1)) ∧ RepL K F ks (es.map fun e => V.ref e.2.1)
section
variable {X : Cx} {pins : List (Addr × Obj)} {σ : St} {H : Hp} {s : Shared} {a b : Addr} {es : List (NestedKey × Addr × V)} {k : NestedKey}
end
noncomputable def sameH (a b : NestedKey → Int) : Bool := @decide (a = b) (Classical.propDecidable _)
theorem sameH_ok {a b : NestedKey → Int} (h : sameH a b = true) : a = b := @of_decide_eq_true _ (Classical.propDecidable _) h
noncomputable def isDN (η : NestedKey → Int) (S : Sto) : Vl → Bool
  | .c j => (match S[j]? with
    | some (.dcN η' _ _) => sameH η' η
    | _ => false)
  | _ => false
theorem Sta.dn {K : PySem.W.Frag} {io : Io} {F H : Hp} {S : Sto} {η : NestedKey → Int} (st : Sta K io F S H) {d : Vl} {v : V} (r : RepV K io F d v) (h : isDN η S d = true) : ∃ a es, v = .ref a ∧ DnAt K η H a es := by
  cases d with
  | p x => cases h
  | c j =>
    unfold isDN at h
    dsimp only at h
    split at h
    · rename_i η' ks xs hk
      have e : η' = η := sameH_ok h
      subst e
      obtain ⟨a, ha, rfl⟩ := r
      obtain ⟨b, es, hb, hF, hH, h1, h2, h3⟩ := st.cel j _ hk
      rw [ha] at hb; cases hb
      exact ⟨a, es, rfl, F, ks, st.sub, hH, h1, h2⟩
    · cases h
section
variable {X : Cx} {W : WX} {o e f : Expr} {mo me mf : ME} {td ty tx : TE} {apos cpos : Pos} {j : Nat}
end
end Mir

namespace Mir
open PySem L2
section
variable {X : Cx} {W : WX} {o e f : Expr} {mo me mf : ME} {td ty tx : TE} {apos cpos pos p mpos : Pos} {j : Nat}
end
section
variable {K : PySem.W.Frag} {io io1 : Io} {F F1 H H1 : Hp} {S S1 : Sto} {Q : VK} {E : XK}
end
section
variable {P : Program} {w : World} {K : PySem.W.Frag} {mg : Str → Option Value} {base : Heap} {x qual : Str} {params : Arguments} {body : List Stmt} {scope : Scope} {dvs : List V} {kws : List (Str × V)} {f : Addr} {fd : FuncData} {N ps : List Str} {k nl : Nat} {m : MS}
end
end Mir

namespace Mir
open PySem L2
section
variable {X : Cx} {W : WX} {tg iter : Expr} {me : ME} {m : MS} {pos : Pos}
end
section
variable {K : PySem.W.Frag} {Q : VK} {E : XK}
end
section
variable {X : Cx} {W : WX} {elt tg iter : Expr} {ifs : List Expr} {scope : Scope} {own : List (Str × Nat)} {pos : Pos} {me : ME} {js : List Nat} {g : MG} {t : MT} {e : ME}
end
end Mir

namespace Mir
open PySem PySem.Spec L2 PySem.Builtin PySem.Builtin.ObjectAttr
structure ExB (newId : String) (bmB : List Value) : Prop where
  bf : ∃ B i, ExcBaseFacts B newId i bmB
  sf : ∃ B, StoreFacts B bmB "object.__setattr__" "object"
abbrev bmV : List Value := [.type "ValueError", .type "Exception", .type "BaseException", .type "object"]
abbrev bmL : List Value := [.type "LookupError", .type "Exception", .type "BaseException", .type "object"]
abbrev bmA : List Value := [.type "ArithmeticError", .type "Exception", .type "BaseException", .type "object"]
theorem exb_V : ExB "ValueError.__new__" bmV := ⟨⟨_, _, F.excBase_ValueError⟩, ⟨_, F.store_ValueError⟩⟩
theorem exb_L : ExB "LookupError.__new__" bmL := ⟨⟨_, _, F.excBase_LookupError⟩, ⟨_, F.store_LookupError⟩⟩
theorem exb_A : ExB "ArithmeticError.__new__" bmA := ⟨⟨_, _, F.excBase_ArithmeticError⟩, ⟨_, F.store_ArithmeticError⟩⟩
structure OexG (K : PySem.W.Frag) (C : Addr) : Prop where
  cls : ∃ newId bmB, ExB newId bmB ∧ PySem.W.excInitIn K C bmB newId = true ∧ PySem.W.excOver K C bmB = true
  hd : ∃ cd, PySem.W.clsIn K C = some cd ∧ cd.hasDict = true
  sa : PySem.W.findIn K (.ref C) "__setattr__" = some (some (.builtin "object.__setattr__"))
  exC : PySem.W.subIn K (.ref C) (.type "BaseException") = some true
  tyC : PySem.W.typeIn K (.ref C) = some (.type "type")
  kC : PySem.W.keepIn K (.ref C) = true
section
variable {prog : Program} {w : World} {A : Around} {E : Value → Shared → Prop} {R : Result → Shared → Prop} {hp : Heap} {g : Array GenState} {d : Drawn} {t : Nat} {os : OsState}
theorem osa_newG {K : PySem.W.Frag} {B : String} {bmB : List Value} {name : Str} {tk : Tok} {v : Value} {x C : Addr} {fv : Array Value} {cd : ClassData} (SF : StoreFacts B bmB "object.__setattr__" "object")
    (X : K.In hp) (hx : hp.get? x = some { cls := .ref C, data := .fields fv }) (ho : PySem.W.excOver K C bmB = true) (hcd : PySem.W.clsIn K C = some cd) (hh : cd.hasDict = true) (ha : PySem.W.findIn K (.ref C) name = some none)
    (hq : ∀ h' tk' dx, (∀ b o, b ≠ x → hp.get? b = some o → h'.get? b = some o) → hp.objs.size ≤ dx → dx ≠ x → h'.get? x = some { cls := .ref C, dict := some dx, data := .fields fv } →
      h'.Ns1 dx (fun y => if y = name then some v else none) → R (.ok (.ret .none)) ⟨h', g, d, tk', os⟩) :
    codeAny (model prog w) A (.call (.builtin "object.__setattr__") ⟨[.ref x, .str name tk, v], []⟩) R ⟨hp, g, d, t, os⟩ := by
  have I : PySem.W.InstAt hp x { cls := .ref C, data := .fields fv } C none := ⟨hx, rfl, rfl, trivial⟩
  have hxs : x ≠ hp.objs.size := Nat.ne_of_lt (Heap.lt_size hx)
  have hcls : PySem.W.Looks (model prog w) hp (classData C) cd := PySem.W.looks_clsIn X hcd
  refine PySem.W.osa_openX (s := ⟨hp, g, d, t, os⟩) SF X I ho (r := none) (by unfold PySem.W.takerIn; rw [ha]; rfl) fun b => ?_
  show wpAny _ _ (storeInOwnDict (.ref x) (.ref C) (.str name tk) name v b) _ _ _
  obtain ⟨nm, bs, mro, ns, qn, hd, sn, sb, ab, col, del⟩ := cd
  dsimp only at hh
  subst hh
  unfold storeInOwnDict ownDictForStores
  repeat (first | with_reducible refine PySem.HandSPX.store_in_new ?_ ?_ | with_reducible refine wpAny_loadPart_at hx ?_ | with_reducible refine hcls.at ?_ | wp_step)
  · exact ⟨_, #[], _, (Heap.get?_update_ne _ _ _ _ hxs.symm).trans (Heap.get?_push_at rfl rfl), rfl, fun e he => absurd he (by simp), fun _ => rfl⟩
  · intro h' tk' hn' hs
    have hx₁ : (hp.push { cls := .type "dict", data := .dict #[] }).get? x = some { cls := .ref C, data := .fields fv } := Heap.get?_push_of_some _ hx
    refine hq h' tk' hp.objs.size (fun b o hb ho => ?_) (Nat.le_refl _) hxs.symm ?_ hn'
    · exact (hs.2 b (Nat.ne_of_lt (Heap.lt_size ho))).trans ((Heap.get?_update_ne _ _ _ _ hb).trans (Heap.get?_push_of_some _ ho))
    · exact (hs.2 x hxs).trans (Heap.get?_update_self _ hx₁ rfl)
end
section
variable {X : Cx} {pins : List (Addr × Obj)} {σ : St} {H : Hp} {s : Shared} {a C dx : Addr} {f : Str} {y : V} {u : Value} {fs : List (Str × V)} {Q : Unit → Shared → Prop} {E : Value → Shared → Prop} {A : Around}
theorem ost_newG (T : OexG X.K C) (I : Inv X pins σ H s) (e : H a = some (exo a C none)) (hno : PySem.W.findIn X.K (.ref C) f = some none) (ry : RelV y u)
    (h : ∀ dx s', H dx = none → dx ≠ a → Inv X pins σ (upd (upd H dx (exd dx [(f, y)])) a (exo a C (some dx))) s' → Q () s') : wpAny (model X.prog X.w) A (setAttr (.ref a) f u) Q E s := by
  obtain ⟨newId, bmB, ⟨_, ⟨B, SF⟩⟩, _, hov⟩ := T.cls
  obtain ⟨cd, hcl, hdt⟩ := T.hd
  obtain ⟨t1, ho⟩ := exo_at I.hok e
  obtain ⟨hp, g, d, t, os⟩ := s
  refine PySem.W.set_plain I.kIn (ox := { cls := .ref C, dict := none, data := .fields #[.ref t1, .none, .none, .none, .bool false, .none] }) (od := none) ⟨ho, rfl, rfl, trivial⟩ T.sa ?_
  refine osa_newG SF I.kIn ho hov hcl hdt hno (fun h' tk' dx k dn dne hx hn => ?_)
  have hnd : H dx = none := I.hok.fresh dn
  have nd : ∀ {b : Addr} {o : Obj}, hp.get? b = some o → b ≠ dx := fun {b o} q => Nat.ne_of_lt (Nat.lt_of_lt_of_le (Heap.lt_size q) dn)
  have na : ∀ {b : Addr}, H b = none → b ≠ a := fun {b} n z => by
    rw [z, e] at n
    cases n
  have Un1 : Un X.fs [] H (upd (upd H dx (exd dx [(f, y)])) a (exo a C (some dx))) hp h' := {
    keep := fun b o q n _ _ => k b o (na n) q
    slot := fun b o q n _ _ => ⟨o.slots, k b o (na n) q⟩
    free := fun b o q n _ => by rw [upd_ne (na n), upd_ne (nd q)]; exact n
    there := fun b o q _ => by
      by_cases hb : b = a
      · exact ⟨_, by rw [hb]; exact hx⟩
      · exact ⟨o, k b o hb q⟩
    tups := fun b xs q => by rw [upd_ne (at_ne e q exo_tup), upd_ne (ne_of_none q hnd)]; exact q
    frzs := fun b o v q => by rw [upd_ne (at_ne e q exo_frz), upd_ne (ne_of_none q hnd)]; exact q
    tbls := fun b ps q => ⟨#[], by rw [upd_ne (at_ne e q exo_tbl), upd_ne (ne_of_none q hnd), q]; simp⟩ }
  refine h dx _ hnd dne (I.un (t' := tk') Un1 fun b o q => ?_)
  by_cases hb : b = a
  · subst hb
    rw [upd_same] at q
    cases q
    exact exo_ok hx
  · rw [upd_ne hb] at q
    by_cases hd : b = dx
    · subst hd
      rw [upd_same] at q
      cases q
      exact exd_ok hn (relO_put (fs := []) ry fun g => True.intro)
    · rw [upd_ne hd] at q
      exact (I.hok b o q).stay (fun c v hc z => k c v (by
          rcases hc with hc | hc
          · rw [hc]
            exact hb
          · exact at_ne e hc exo_own) z)
        (fun c hc => by rw [upd_ne (at_ne e hc exo_own), upd_ne (ne_of_none hc hnd)]; exact hc) (fun c xs hc => by rw [upd_ne (at_ne e hc exo_tup), upd_ne (ne_of_none hc hnd)]; exact hc)
end
def tOs1 (K : PySem.W.Frag) (f : Str) (to te : TE) : TS := fun D σ H => te σ H fun y H1 => to σ H1 fun x H2 => ∃ a C : Addr, x = .ref a ∧ OexG K C ∧ PySem.W.findIn K (.ref C) f = some none ∧
  H2 a = some (exo a C none) ∧ ∀ dx, H2 dx = none → dx ≠ a → D.nx σ (upd (upd H2 dx (exd dx [(f, y)])) a (exo a C (some dx)))
section
variable {X : Cx} {o e : Expr} {es : List Expr} {to te : TE} {ta : TA} {f : Str} {p p' p1 p2 pos : Pos}
theorem ps_os1 (ho : PE X o to) (he : PE X e te) (hs : swapsWith e (some (.Attribute o f p')) pos.line X.env = pure false := by rfl) : PS X (.Assign [.Attribute o f p'] e pos) (tOs1 X.K f to te) := by
  refine ⟨fun pins s σ H D I h => ?_⟩
  refine plainObj_wpAny_Assign_Attribute (thn (he.run pins s σ H _ I h) fun v s1 ⟨y, H1, I1, r1, q1⟩ => thn (ho.run pins s1 σ H1 _ I1 q1) fun u s2 ⟨x, H2, I2, r2, a, C, ex, T, hno, ea, q⟩ => ?_) hs
  subst ex
  obtain rfl : u = Value.ref a := r2
  exact ost_newG T I2 ea hno r1 fun dx s' n ne J => ⟨σ, _, J, q dx n ne⟩
theorem pmk_oexG {W : WX} {x : Str} {C fI : Addr} {k : Nat} {fd : FuncData} {ps : List Str} {sp : Sp} (T : OexG X.K C) (iC : PySem.W.findIn X.K (.ref C) "__init__" = some (some (.ref fI))) (tI : PySem.W.typeIn X.K (.ref fI) = some (.type "function"))
    (F1 : FnG X.prog X.w X.K X.mg X.base k fI fd ps sp) (hr : RoomG (k + 1) X.A) (hb : Binds X.K fd ps []) (tk : Takes X W) (hg : Gl X x) (hm : X.mg x = some (.ref C)) (ha : PA X (e :: es) ta)
    (hdb : (x == ("__debug__" : Str)) = false := by decide) (he : starEach (e :: es) X.env = (false, eval e X.env) :: starEach es X.env := by rfl) (hpl : (backTo pos (starEach es X.env)).any (·.1) = false := by rfl) :
    PMk X (.Call (.Name x p) (e :: es) [] pos) (tMkO C sp [] ta) := by
  intro pins s σ H Q I h
  obtain ⟨newId, bmB, ⟨⟨B, ini, BF⟩, _⟩, hin, _⟩ := T.cls
  refine wpAny_Call_Name_kw (ld_glob I hg hm ?_ hdb)
  refine PySem.W.callWith_K (h₀ := X.base) I.ok.mod.kin T.kC (thn (ha.run pos pins s σ H _ I h) fun us s1 ⟨vs, H1, I1, r1, hz, q1⟩ => ⟨I1.kIn, ?_⟩) he hpl
  show wpAny _ _ (call (.ref C) us) _ _ _
  obtain ⟨hp, g, dr, tk0, os⟩ := s1
  obtain ⟨nm, N, qn, bs, bm, hdct, sn, sub, ab, col, dd, k0, k1, k2, k3, k5, hC, hbm⟩ := PySem.W.excInit_of I1.kIn hin
  have hsz : hp.objs.size ≤ hp.objs.size + 1 := Nat.le_succ _
  have hn : H1 (hp.objs.size + 1) = none := I1.hok.fresh hsz
  have hq := q1 (hp.objs.size + 1) hn
  have kk : ∀ b o, hp.get? b = some o → ((hp.push (PySem.W.kdv_tup us)).push (PySem.HandSPX.excO C hp.objs.size)).get? b = some o := fun b o e => Heap.get?_push_of_some _ (Heap.get?_push_of_some _ e)
  have hget : ((hp.push (PySem.W.kdv_tup us)).push (PySem.HandSPX.excO C hp.objs.size)).get? (hp.objs.size + 1) = some (PySem.HandSPX.excO C hp.objs.size) := by heap_get
  have I2 : Inv X pins σ (upd H1 (hp.objs.size + 1) (exo (hp.objs.size + 1) C none)) ⟨(hp.push (PySem.W.kdv_tup us)).push (PySem.HandSPX.excO C hp.objs.size), g, dr, tk0, os⟩ :=
    I1.laid (t' := tk0) (a := hp.objs.size + 1) (o := exo (hp.objs.size + 1) C none) (h' := (hp.push (PySem.W.kdv_tup us)).push (PySem.HandSPX.excO C hp.objs.size)) kk hsz (exo_ok hget)
  have r2 : Vals (V.ref (hp.objs.size + 1) :: (vs ++ [])) (Value.ref (hp.objs.size + 1) :: (us ++ [])) := .cons rfl (r1.append .nil)
  have hl : (Value.ref (hp.objs.size + 1) :: us ++ []).length = ps.length := by
    have e := r2.length
    rw [F1.len _ _ _ _ hq] at e
    exact e.symm
  have hbt := hb _ (Value.ref (hp.objs.size + 1) :: us) I2.kIn hl
  rw [List.cons_append] at hbt
  have hus : us.length ≤ sizeLine := by
    rw [← Paired.length r1, sizeLine_eq]
    omega
  refine wpAny_call (PySem.HandSPX.call_own BF hbm hC (PySem.W.looks_findIn I1.kIn iC) (fun self => PySem.W.bind_fn I1.kIn self tI) hus
    (codeAny_mono (F1.run _ X.stack _ _ ⟨Value.ref (hp.objs.size + 1) :: us, []⟩ (Value.ref (hp.objs.size + 1) :: (us ++ [])) _ _ (fun _ _ _ => False) (hr.make C us []) (I2.env0.make C us []) hbt r2 hq) fun r s' hq' => ?_))
  cases r with
  | error er => exact tk _ _ (XE.of_call I2 (fun _ _ _ z => z.elim) hq')
  | ok fl =>
    cases fl with
    | ret u =>
      obtain ⟨v, H2, os2, bare2, un2, hok2, rv, ev, d, fs, ea, ed, hd1, q2⟩ := hq'
      subst ev
      obtain ⟨h2, g2, d2, t2, os'⟩ := s'
      exact ⟨rv, mk_end (raises_own T.exC T.tyC) I1 hsz kk un2 hok2 os2 bare2 ea ed hd1 q2⟩
    | next => exact False.elim hq'
    | brk => exact False.elim hq'
    | cont => exact False.elim hq'
end
def spXI (C : Addr) (f : Str) : Sp := fun vs H Q _ => ∃ a y, vs = [.ref a, y] ∧ H a = some (exo a C none) ∧ ∀ dx, H dx = none → dx ≠ a → Q .non (upd (upd H dx (exd dx [(f, y)])) a (exo a C (some dx)))
theorem fn_xinit {P : Program} {w : World} {K : PySem.W.Frag} {mg : Str → Option Value} {base : Heap} {x qual sn yn : Str} {params : Arguments} {body : List Stmt} {scope : Scope} {fI C : Addr} {fd : FuncData} {k : Nat} {f : Str} {p1 p2 p3 pos : Pos}
    (F : FunD K x qual params body scope [] [] fI fd) (sc : FnScope [sn, yn] [sn, yn] scope) (T : OexG K C) (hno : PySem.W.findIn K (.ref C) f = some none) (hb : body = [.Assign [.Attribute (.Name sn p1) f p2] (.Name yn p3) pos])
    (v1 : Vis scope sn) (v2 : Vis scope yn) (d1 : (sn == ("__debug__" : Str)) = false := by decide) (d2 : (yn == ("__debug__" : Str)) = false := by decide) (c1 : (sn == ("__classdict__" : Str)) = false := by decide) (c2 : (yn == ("__classdict__" : Str)) = false := by decide) :
    FnG P w K mg base (k + 1) fI fd [sn, yn] (spXI C f) := by
  refine fnG_of F sc (fun vs H Q E h => ?_) fun cdv A outer s H vs Q E hr h => ?_
  · obtain ⟨a, y, rfl, _⟩ := h
    rfl
  · obtain ⟨a, y, rfl, ha, q⟩ := h
    subst hb
    refine ⟨_, pss_one (ps_os1 (pe_var (i := 0) rfl v1 d1 c1) (pe_var (i := 1) rfl v2 d2 c2)), ?_⟩
    exact ⟨y, rfl, .ref a, rfl, a, C, rfl, T, hno, ha, fun dx n ne => q dx n ne⟩
structure XC (P : Program) (w : World) (K : PySem.W.Frag) (mg : Str → Option Value) (base : Heap) (c f : Str) (k : Nat) : Prop where
  g : mg c = some (.ref (He.ga K c))
  T : OexG K (He.ga K c)
  ini : ∃ fI fd ps, PySem.W.findIn K (.ref (He.ga K c)) "__init__" = some (some (.ref fI)) ∧ PySem.W.typeIn K (.ref fI) = some (.type "function") ∧ FnG P w K mg base k fI fd ps (spXI (He.ga K c) f) ∧ Binds K fd ps []
def sRaise (c f : Str) (a : MA) : MS := fun ρ S => (a ρ S).go ρ fun ds S1 => match ds with
  | [d] => (frz d S1).go ρ fun x S2 => .ok (.xc ρ c (some ([f], [x]))) S2
  | _ => .bad
theorem os_raise {X : Cx} {W : WX} {c f : Str} {k j : Nat} {e : Expr} {mas : MA} {p pos pos' : Pos} (G : XC X.prog X.w X.K X.mg X.base c f k) (hr : RoomG j X.A) (hk : k + 1 ≤ j) (hc : X.calm = true) (tk : Takes X W) (ha : OA X W [e] mas) (hg : Gl X c := by rfl)
    (hdb : (c == ("__debug__" : Str)) = false := by decide) (he : starEach [e] X.env = (false, eval e X.env) :: starEach [] X.env := by rfl) :
    OS X W (.Raise (some (.Call (.Name c p) [e] [] pos)) none pos') (sRaise c f mas) := by
  obtain ⟨fI, fd, ps, iC, tI, F1, hb⟩ := G.ini
  obtain ⟨ta, pa, ha⟩ := ha
  refine ⟨_, ps_raise hc tk (pmk_oexG G.T iC tI F1 (hr.mono hk) hb tk hg G.g pa hdb he rfl), fun ρ S io F σ H D st en h => ?_⟩
  show ta σ H _
  refine ha ρ S io F σ H _ st en (RS.go en h fun ds S1 io1 F1 H1 vs e1 n1 s1 r1 h1 => ?_)
  match ds, r1, h1 with
  | [d], ⟨v, w, e1, rd, e2⟩, h1 =>
    have e2 : w = [] := e2
    subst e2; subst e1
    dsimp only at h1
    refine ⟨by simp, fun a hna => ⟨a, v, rfl, upd_same, fun dx hdx hne => ⟨rfl, dx, [(f, v)], upd_same, ?_, ?_, ?_⟩⟩⟩
    · rw [upd_ne hne, upd_same]
    · rw [upd_ne hne] at hdx
      exact hdx
    · rw [upd_ne hne] at hdx
      have hH : upd (del (upd (upd (upd H1 a (exo a (He.ga X.K c) none)) dx (exd dx [(f, v)])) a (exo a (He.ga X.K c) (some dx))) a) dx (.xd [(f, v)]) = upd H1 dx (.xd [(f, v)]) := by
        funext b
        by_cases q : b = dx
        · subst q
          rw [upd_same, upd_same]
        · rw [upd_ne q, upd_ne q]
          by_cases q2 : b = a
          · subst q2
            rw [del_same, hna]
          · rw [del_ne q2, upd_ne q2, upd_ne q, upd_ne q2]
      rw [hH]
      cases q4 : frz d S1 with
      | bad => rw [q4] at h1; exact h1.elim
      | exc c x S => exact absurd q4 (frz_nox _ _ _ _ _)
      | ok x S2 =>
        rw [q4] at h1
        obtain ⟨x', S2', F2, n2, s2, rp, hz, _⟩ := s1.frz (C := Vl) (D := V) (R' := RepA X.K) (g := fun _ S => .ok (.p .non) S) (Q := fun _ _ => True) (E := fun _ _ _ => True) rd (by rw [q4]; exact fun _ _ _ _ _ _ _ => trivial)
        rw [q4] at hz; cases hz
        obtain ⟨s3, n3⟩ := s2.froze (o := .xd [(f, v)]) hdx
        exact h1 io1 _ _ (some dx) σ (n2.trans n3) s3 (((en.nxt n1).nxt n2).nxt n3) ⟨dx, [(f, v)], rfl, upd_same, rfl, RepL.mono n3.fr (.cons rp .nil)⟩
  | [], _, h1 => exact h1.elim
  | _ :: _ :: _, _, h1 => exact h1.elim
end Mir

namespace Mir
open PySem PySem.Spec PyProof.Rows
abbrev Cls1 := Value × Option Nat × (Addr → Value → Option Addr → L2.TS)
def slotO (i : Option Nat) (v : Option L2.V) (σ : L2.St) : L2.St := match i with
  | some i => σ.set i v
  | none => σ
def wMas (K : PySem.W.Frag) (Wout : L2.WX) (D : L2.Ends) : List Cls1 → L2.WX
  | [] => Wout
  | (c, i, ts) :: r => fun cls d σ H => ∃ b, PySem.W.exmOne K cls c = some b ∧
      (b = true → ∀ a, H a = none → ts a cls d { nx := fun σ' H' => D.nx (slotO i none σ') H', rt := D.rt, bk := fun σ' H' => D.bk (slotO i none σ') H', ct := fun σ' H' => D.ct (slotO i none σ') H' } (slotO i (some (.ref a)) σ) H) ∧
      (b = false → wMas K Wout D r cls d σ H)
inductive HdsA (X : L2.Cx) : List ExceptHandler → List Cls1 → Prop
  | nil : HdsA X [] []
  | cons {x : Str} {c : Value} {ts : Addr → Value → Option Addr → L2.TS} {b₀ : Stmt} {suite : List Stmt} {np pos' : Pos} {hds : List ExceptHandler} {l : List Cls1} (hc : L2.Names X x c)
      (hsu : ∀ (a : Addr) (oe : Obj) (cls : Value) (d : Option Addr) (pn : List (Addr × Obj)), L2.Zc cls d oe → (∃ vs, oe.data = .fields vs) → L2.PSs (X.suite a ((a, oe) :: pn)) (b₀ :: suite) (ts a cls d)) (r : HdsA X hds l) :
      HdsA X (.ExceptHandler (some (.Name x np)) none (b₀ :: suite) pos' :: hds) ((c, none, ts) :: l)
  | as_ {x n : Str} {i : Nat} {c : Value} {ts : Addr → Value → Option Addr → L2.TS} {b₀ : Stmt} {suite : List Stmt} {np pos' : Pos} {hds : List ExceptHandler} {l : List Cls1} (hc : L2.Names X x c) (hN : X.N.Nodup) (hi : X.N[i]? = some n) (hln : X.env.kindOf n = some .local)
      (hsu : ∀ (a : Addr) (oe : Obj) (cls : Value) (d : Option Addr) (pn : List (Addr × Obj)), L2.Zc cls d oe → (∃ vs, oe.data = .fields vs) → L2.PSs (X.suite a ((a, oe) :: pn)) (b₀ :: suite) (ts a cls d)) (r : HdsA X hds l) :
      HdsA X (.ExceptHandler (some (.Name x np)) (some n) (b₀ :: suite) pos' :: hds) ((c, some i, ts) :: l)
  | tup {x1 x2 x3 n : Str} {i kk : Nat} {c1 c2 c3 : Value} {ts : Addr → Value → Option Addr → L2.TS} {b₀ : Stmt} {suite : List Stmt} {p1 p2 p3 np pos' : Pos} {hds : List ExceptHandler} {l : List Cls1} (hc1 : L2.Names X x1 c1) (hc2 : L2.Names X x2 c2) (hc3 : L2.Names X x3 c3)
      (e1 : PySem.W.exmOne X.K c1 c1 = some true) (e2 : PySem.W.exmOne X.K c2 c2 = some true) (e3 : PySem.W.exmOne X.K c3 c3 = some true) (hN : X.N.Nodup) (hi : X.N[i]? = some n) (hln : X.env.kindOf n = some .local)
      (hsu : ∀ (a : Addr) (oe : Obj) (cls : Value) (d : Option Addr) (pn : List (Addr × Obj)), L2.Zc cls d oe → (∃ vs, oe.data = .fields vs) → L2.PSs (X.suite a ((a, oe) :: pn)) (b₀ :: suite) (ts a cls d)) (r : HdsA X hds l) :
      HdsA X (.ExceptHandler (some (.Tuple [.Name x1 p1, .Name x2 p2, .Name x3 p3] kk np)) (some n) (b₀ :: suite) pos' :: hds) ((c1, some i, ts) :: (c2, some i, ts) :: (c3, some i, ts) :: l)
theorem flyZ_keeps {B : Heap} {l : List PySem.Env} {a : Addr} {Z : Obj → Prop} {h h' : Heap} (R : HandSPX.FlyingZ B l a Z h) (k : ∀ b o, h.get? b = some o → h'.get? b = some o) : HandSPX.FlyingZ B l a Z h' := by
  obtain ⟨k1, k2, k3, oe, vs, T, oT, ts', he, hz, hd, h1, hn, hne, hT, hr⟩ := R
  exact ⟨fun b o q => k b o (k1 b o q), k2, k3.of_keeps fun b o q _ => ⟨o, k b o q, rfl⟩, oe, vs, T, oT, ts', k _ _ he, hz, hd, h1, hn, hne, k _ _ hT, hr⟩
end Mir
namespace PySem.W
open PySem PySem.Spec PySem.Calls PyProof.Rows
theorem exm_first3 {M : Model} {K : Frag} {c1 c2 c3 cls : Value} {tp e : Addr} {b : Bool} {h : Heap} (X : K.In h) (LT : Looks M h (typeOf (.ref e)) cls) (hp : h.get? tp = some { cls := .type "tuple", data := .seq [c1, c2, c3].toArray })
    (e1 : exmOne K c1 c1 = some true) (e2 : exmOne K c2 c2 = some true) (e3 : exmOne K c3 c3 = some true)
    (hx : (exmOne K cls c1 = some true ∧ b = true) ∨ (exmOne K cls c1 = some false ∧ exmOne K cls c2 = some true ∧ b = true) ∨ (exmOne K cls c1 = some false ∧ exmOne K cls c2 = some false ∧ exmOne K cls c3 = some b)) :
    Looks M h (excMatches (.ref e) (.ref tp)) b := by
  intro A Q E s k₀ q
  obtain ⟨hh, g, d, tk, os⟩ := s
  have k : ∀ b o, h.get? b = some o → hh.get? b = some o := k₀
  have LT0 : Looks M h (isInstance (.ref tp) (.type "tuple")) true := ((Looks.ld hp).andThen .now).andThen (Looks.of_pure isSubtype_tuple_tuple)
  obtain ⟨f1, _⟩ := exm_cls (M := M) X e1
  have f1 := f1.keeps k
  obtain ⟨f2, _⟩ := exm_cls (M := M) X e2
  have f2 := f2.keeps k
  obtain ⟨f3, _⟩ := exm_cls (M := M) X e3
  have f3 := f3.keeps k
  have LT := LT.keeps k
  have LT0 := LT0.keeps k
  have hp' := k _ _ hp
  unfold excMatches
  refine wpAny_bind (LT0.at ?_)
  dsimp only
  rw [if_pos rfl]
  first
    | refine wpAny_bind (wpAny_seqItems hp' rfl ?_)
    | refine wpAny_bind (wpAny_bind (wpAny_seqItems hp' rfl (wpAny_pure ?_)))
  dsimp only [Option.getD_some, Option.getD]
  rcases hx with ⟨x1, rfl⟩ | ⟨x1, x2, rfl⟩ | ⟨x1, x2, x3⟩
  · have S1 := (exm_cls (M := M) X x1).2.keeps k
    ((repeat (first | simp only [List.forIn_cons, List.forIn_nil, Bool.not_true, Bool.false_eq_true, if_false, if_true] | lk)); exact q)
  · have S1 := (exm_cls (M := M) X x1).2.keeps k
    have S2 := (exm_cls (M := M) X x2).2.keeps k
    ((repeat (first | simp only [List.forIn_cons, List.forIn_nil, Bool.not_true, Bool.false_eq_true, if_false, if_true] | lk)); exact q)
  · have S1 := (exm_cls (M := M) X x1).2.keeps k
    have S2 := (exm_cls (M := M) X x2).2.keeps k
    have S3 := (exm_cls (M := M) X x3).2.keeps k
    cases b <;> ((repeat (first | simp only [List.forIn_cons, List.forIn_nil, Bool.not_true, Bool.false_eq_true, if_false, if_true] | lk)); exact q)
end PySem.W
namespace L2
open PySem PySem.Spec PyProof.Rows
section
variable {X : Cx} {body : List Stmt} {h₀ : ExceptHandler} {hds : List ExceptHandler} {l : List Mir.Cls1} {pos : Pos} {tb : WX → TS} {Wout : WX}
theorem ps_try_mas (hs : X.stack = X.env :: X.outer) (hf : X.env.frame = some X.env.locals) (tk : Takes X Wout)
    (hb : ∀ (W : WX) (pn : List (Addr × Obj)) (xe : Value → Shared → Prop), Takes (X.tr pn xe) W → PassesOwn (model X.prog X.w) X.A X.env xe → PSs (X.tr pn xe) body (tb W))
    (hh : Mir.HdsA X (h₀ :: hds) l) : PS X (.Try body (h₀ :: hds) [] [] pos) (fun D σ H => tb (Mir.wMas X.K Wout D l) D σ H) := by
  refine ⟨fun pins s σ H D I h => ?_⟩
  have ok := I.ok
  have hfr : X.A.frames = some (X.env :: X.outer) := by rw [ok.frames, hs]
  refine wpAny_Try_except ?_
  refine wpAny_mono ((hb (Mir.wMas X.K Wout D l) (X.pn ++ pins) (fun e s₁ => wpAny (model X.prog X.w) X.A (noteFrame e X.env) (fun _ s₂ => wpAny (model X.prog X.w) X.A (setFlight e none) (fun _ s₃ =>
    wpAny (model X.prog X.w) X.A (handleBy e X.env (h₀ :: hds)) (SP X pins D) X.xe s₃) X.xe s₂) X.xe s₁) (fun u s' xx => ?_) PassesOwn.looking).run [] s σ H D (I.toTry _) h) (fun f s1 hsp => ?_) (fun e s1 he => he)
  · obtain ⟨a, B, sI, pins', σ', H', cls, d, rfl, J', nb, up, sky, na, os, ag, w⟩ := xx
    have J : Inv X pins σ' H' sI := J'.ofTry ok
    have sky' : Sky B (X.env :: X.outer) a (Zc cls d) X.env.locals s'.heap := by rw [← hs]; exact sky
    show wpAny (model X.prog X.w) X.A (noteFrame (.ref a) X.env) _ _ _
    refine Sky.land Zc.steady hfr hf sky' fun h3 fl3 up3 => ?_
    have pre : ∀ (h3 : Heap) (fl3 : HandSPX.FlyingZ B (X.env :: X.outer) a (Zc cls d) h3) (up3 : s'.heap.UpToSlots h3), Inv X pins σ' H' { s' with heap := h3 } ∧ a ≠ X.env.locals ∧ a ∉ X.fs ∧ PySem.W.Looks (model X.prog X.w) h3 (typeOf (.ref a)) cls ∧
        (∀ {x : Str} {c : Value} {np : Pos} {Q : Value → Shared → Prop} {E : Value → Shared → Prop}, Names X x c → Q c { s' with heap := h3 } → wpAny (model X.prog X.w) (X.A.mark (some (.ref a))) (eval (.Name x np) X.env) Q E { s' with heap := h3 }) := fun h3 fl3 up3 => by
      have J3 : Inv X pins σ' H' { s' with heap := h3 } := J.landed nb fl3.1 (up.trans up3) os ag
      obtain ⟨oe3, vs3, he3, hz3, hd3⟩ := fl3.there
      have notFr : ∀ {h : Heap} {o : Obj} {vs : Array Value}, h.FunFrames B (X.env :: X.outer) → h.get? a = some o → o.data = .fields vs → a ∉ frs (X.env :: X.outer) := fun {h o vs} ff e dd hm => by
        obtain ⟨_, o', e', hnf⟩ := ff.mem hm
        rw [e] at e'; cases e'
        exact hnf _ dd
      have nfr := notFr fl3.2.2.1 he3 hd3
      have nL : a ≠ X.env.locals := fun z => nfr (List.mem_filterMap.mpr ⟨X.env, List.mem_cons_self, by rw [hf, z]⟩)
      have nF : a ∉ X.fs := fun hm => by
        obtain ⟨e, he, q⟩ := List.mem_filterMap.mp hm
        exact nfr (List.mem_filterMap.mpr ⟨e, List.mem_cons_of_mem _ he, q⟩)
      have S3 := J3.suite he3 hd3 na nL nF
      refine ⟨J3, nL, nF, fun A Q E s k q => wpAny_typeOf_ref (k _ _ he3) (by rw [hz3.1]; exact q), fun {x c np Q E} hc q => ?_⟩
      obtain ⟨hg, hdbg, hm | ⟨hm, hv, hnn⟩⟩ := hc
      · exact ld_glob (X := X.suite a ((a, oe3) :: (X.pn ++ pins))) S3 hg hm q hdbg
      · exact ld_blt (X := X.suite a ((a, oe3) :: (X.pn ++ pins))) S3 hg hm hv q hnn hdbg
    have go : ∀ {hds' : List ExceptHandler} {l' : List Mir.Cls1}, Mir.HdsA X hds' l' → ∀ (h3 : Heap) (fl3 : HandSPX.FlyingZ B (X.env :: X.outer) a (Zc cls d) h3) (up3 : s'.heap.UpToSlots h3), Mir.wMas X.K Wout D l' cls d σ' H' →
        wpAny (model X.prog X.w) X.A (handleBy (.ref a) X.env hds') (SP X pins D) X.xe { s' with heap := h3 } := by
      intro hds' l' hk
      induction hk with
      | nil =>
        intro h3 fl3 up3 w
        obtain ⟨J3, nL, nF, LT, test⟩ := pre h3 fl3 up3
        refine wpAny_handleBy_nil ?_
        obtain ⟨k1, k2, k3, oe, vs, T, oT, ts', he, hz, hd, h1, hr⟩ := id fl3
        unfold PySem.passOn
        refine wpAny_bind (wpAny_field he hd h1 ?_)
        rw [if_neg (show ¬ ((Value.ref T == Value.none) = true) from by simp)]
        have fin : wpAny (model X.prog X.w) X.A (setFlight (.ref a) X.env.frame) (fun _ s4 => wpAny (model X.prog X.w) X.A (throw (.ref a) : Sem Flow) (SP X pins D) X.xe s4) X.xe { s' with heap := h3 } := by
          rw [hf]
          refine HandSPX.setFlight_upZ fl3 fun h4 hh4 up4 => wpAny_throw (tk _ _ ?_)
          exact ⟨a, B, sI, pins, σ', H', cls, d, rfl, J, nb, (up.trans up3).trans up4, .inr (.inr (by rw [hs]; exact hh4)), na, os, ag, w⟩
        first
          | exact wpAny_bind (wpAny_pure (wpAny_bind fin))
          | exact wpAny_bind fin
      | @cons x c ts b₀ suite np pos' hds2 l2 hc hsu r ih =>
        intro h3 fl3 up3 w
        obtain ⟨J3, nL, nF, LT, test⟩ := pre h3 fl3 up3
        obtain ⟨b, hb1, hyes, hno⟩ := w
        refine wpAny_handleBy_cons (codeAny_handlers_test ?_) (by intro q; cases q)
        have LM := PySem.W.exm_one (M := model X.prog X.w) (J3.kIn) LT hb1
        refine test hc (LM.here ?_)
        cases b with
        | true =>
          refine codeAny_handlers_suite ?_
          refine HandSPX.lands_againZ fl3 fun h4 fl4 up4 => ?_
          have J4 : Inv X pins σ' H' { s' with heap := h4 } := J.landed nb fl4.1 ((up.trans up3).trans up4) os ag
          obtain ⟨oe4, vs4, he4, hz4, hd4⟩ := fl4.there
          have S4 := J4.suite he4 hd4 na nL nF
          refine wpAny_mono ((hsu a oe4 cls d (X.pn ++ pins) hz4 ⟨_, hd4⟩).run [] _ _ H' _ S4 (hyes rfl a na)) (fun f s6 hsp => ?_) (fun _ _ z => False.elim z)
          cases f with
          | next =>
            obtain ⟨σ6, H6, S6, q6⟩ := hsp
            exact ⟨_, _, S6.unsuite ok, q6⟩
          | brk =>
            obtain ⟨σ6, H6, S6, q6⟩ := hsp
            exact ⟨_, _, S6.unsuite ok, q6⟩
          | cont =>
            obtain ⟨σ6, H6, S6, q6⟩ := hsp
            exact ⟨_, _, S6.unsuite ok, q6⟩
          | ret u =>
            obtain ⟨v6, σ6, H6, S6, r6, q6⟩ := hsp
            exact ⟨_, _, _, S6.unsuite ok, r6, q6⟩
        | false =>
          show wpAny _ X.A (handleBy (.ref a) X.env hds2) _ _ _
          exact ih h3 fl3 up3 (hno rfl)
      | @as_ x n i c ts b₀ suite np pos' hds2 l2 hc hN hi hln hsu r ih =>
        intro h3 fl3 up3 w
        obtain ⟨J3, nL, nF, LT, test⟩ := pre h3 fl3 up3
        obtain ⟨b, hb1, hyes, hno⟩ := w
        have hloc : Loc X.env.scope n := .inl hln
        refine wpAny_handleBy_cons (codeAny_handlers_test ?_) (by intro q; cases q)
        have LM := PySem.W.exm_one (M := model X.prog X.w) (J3.kIn) LT hb1
        refine test hc (LM.here ?_)
        cases b with
        | true =>
          refine codeAny_handlers_suite_as ?_
          refine HandSPX.lands_againZ fl3 fun h4 fl4 up4 => ?_
          have J4 : Inv X pins σ' H' { s' with heap := h4 } := J.landed nb fl4.1 ((up.trans up3).trans up4) os ag
          obtain ⟨oe4, vs4, he4, hz4, hd4⟩ := fl4.there
          have S4 := J4.suite he4 hd4 na nL nF
          refine store_ok (X := X.suite a ((a, oe4) :: (X.pn ++ pins))) (v := .ref a) S4 hN hi hloc rfl (fun s5 S5 => ?_) (.inr hln)
          refine wpAny_mono ((hsu a oe4 cls d (X.pn ++ pins) hz4 ⟨_, hd4⟩).run [] s5 _ H' _ S5 (hyes rfl a na)) (fun f s6 hsp => ?_) (fun _ _ z => False.elim z)
          have end_ : ∀ {σ6 : L2.St} {H6 : Hp} {Q : Shared → Prop}, Inv (X.suite a ((a, oe4) :: (X.pn ++ pins))) [] σ6 H6 s6 → (∀ s7, Inv X pins (σ6.set i none) H6 s7 → Q s7) →
              wpAny (model X.prog X.w) X.A (do bindName X.env n .none; unbindBehindTheSuite X.env n pos') (fun _ s7 => Q s7) X.xe s6 := fun {σ6 H6 Q} S6 hq => gone_ok (S6.unsuite ok) hN hi hln hq
          cases f with
          | next =>
            obtain ⟨σ6, H6, S6, q6⟩ := hsp
            exact end_ S6 fun s7 J7 => ⟨_, _, J7, q6⟩
          | brk =>
            obtain ⟨σ6, H6, S6, q6⟩ := hsp
            exact end_ S6 fun s7 J7 => ⟨_, _, J7, q6⟩
          | cont =>
            obtain ⟨σ6, H6, S6, q6⟩ := hsp
            exact end_ S6 fun s7 J7 => ⟨_, _, J7, q6⟩
          | ret u =>
            obtain ⟨v6, σ6, H6, S6, r6, q6⟩ := hsp
            exact end_ S6 fun s7 J7 => ⟨_, _, _, J7, r6, q6⟩
        | false =>
          show wpAny _ X.A (handleBy (.ref a) X.env hds2) _ _ _
          exact ih h3 fl3 up3 (hno rfl)
      | @tup x1 x2 x3 n i kk c1 c2 c3 ts b₀ suite p1 p2 p3 np pos' hds2 l2 hc1 hc2 hc3 e1 e2 e3 hN hi hln hsu r ih =>
        intro h3 fl3 up3 w
        obtain ⟨J3, nL, nF, LT, test⟩ := pre h3 fl3 up3
        have ww : ∃ b, ((PySem.W.exmOne X.K cls c1 = some true ∧ b = true) ∨ (PySem.W.exmOne X.K cls c1 = some false ∧ PySem.W.exmOne X.K cls c2 = some true ∧ b = true) ∨ (PySem.W.exmOne X.K cls c1 = some false ∧ PySem.W.exmOne X.K cls c2 = some false ∧ PySem.W.exmOne X.K cls c3 = some b)) ∧
            (b = true → ∀ a, H' a = none → ts a cls d { nx := fun σ1 H1 => D.nx (Mir.slotO (some i) none σ1) H1, rt := D.rt, bk := fun σ1 H1 => D.bk (Mir.slotO (some i) none σ1) H1, ct := fun σ1 H1 => D.ct (Mir.slotO (some i) none σ1) H1 } (Mir.slotO (some i) (some (.ref a)) σ') H') ∧ (b = false → Mir.wMas X.K Wout D l2 cls d σ' H') := by
          obtain ⟨b1, q1, y1, n1⟩ := w
          cases b1 with
          | true => exact ⟨true, .inl ⟨q1, rfl⟩, y1, fun z => (by cases z)⟩
          | false =>
            obtain ⟨b2, q2, y2, n2⟩ := n1 rfl
            cases b2 with
            | true => exact ⟨true, .inr (.inl ⟨q1, q2, rfl⟩), y2, fun z => (by cases z)⟩
            | false =>
              obtain ⟨b3, q3, y3, n3⟩ := n2 rfl
              exact ⟨b3, .inr (.inr ⟨q1, q2, q3⟩), y3, n3⟩
        obtain ⟨b, hb1, hyes, hno⟩ := ww
        have hloc : Loc X.env.scope n := .inl hln
        refine wpAny_handleBy_cons (codeAny_handlers_test ?_) (by intro q; cases q)
        refine wpAny_Tuple ?_
        refine wpAny_items_cons (test hc1 ?_)
        refine wpAny_items_cons (test hc2 ?_)
        refine wpAny_items_cons (test hc3 ?_)
        refine wpAny_items_nil ⟨by size_fits, ?_⟩
        have kp : ∀ q o, h3.get? q = some o → (h3.push { cls := .type "tuple", data := .seq [c1, c2, c3].toArray }).get? q = some o := fun _ _ z => Heap.get?_push_of_some _ z
        have LM := PySem.W.exm_first3 (M := model X.prog X.w) (PySem.W.Frag.In.keeps J3.kIn kp) (LT.keeps kp) (Heap.get?_push_size h3 rfl) e1 e2 e3 hb1
        have fl3' := Mir.flyZ_keeps fl3 kp
        have up3' := up3.trans (Heap.UpToSlots.of_keeps kp)
        refine LM.here ?_
        cases b with
        | true =>
          refine codeAny_handlers_suite_as ?_
          refine HandSPX.lands_againZ fl3' fun h4 fl4 up4 => ?_
          have J4 : Inv X pins σ' H' { s' with heap := h4 } := J.landed nb fl4.1 ((up.trans up3').trans up4) os ag
          obtain ⟨oe4, vs4, he4, hz4, hd4⟩ := fl4.there
          have S4 := J4.suite he4 hd4 na nL nF
          refine store_ok (X := X.suite a ((a, oe4) :: (X.pn ++ pins))) (v := .ref a) S4 hN hi hloc rfl (fun s5 S5 => ?_) (.inr hln)
          refine wpAny_mono ((hsu a oe4 cls d (X.pn ++ pins) hz4 ⟨_, hd4⟩).run [] s5 _ H' _ S5 (hyes rfl a na)) (fun f s6 hsp => ?_) (fun _ _ z => False.elim z)
          have end_ : ∀ {σ6 : L2.St} {H6 : Hp} {Q : Shared → Prop}, Inv (X.suite a ((a, oe4) :: (X.pn ++ pins))) [] σ6 H6 s6 → (∀ s7, Inv X pins (σ6.set i none) H6 s7 → Q s7) →
              wpAny (model X.prog X.w) X.A (do bindName X.env n .none; unbindBehindTheSuite X.env n pos') (fun _ s7 => Q s7) X.xe s6 := fun {σ6 H6 Q} S6 hq => gone_ok (S6.unsuite ok) hN hi hln hq
          cases f with
          | next =>
            obtain ⟨σ6, H6, S6, q6⟩ := hsp
            exact end_ S6 fun s7 J7 => ⟨_, _, J7, q6⟩
          | brk =>
            obtain ⟨σ6, H6, S6, q6⟩ := hsp
            exact end_ S6 fun s7 J7 => ⟨_, _, J7, q6⟩
          | cont =>
            obtain ⟨σ6, H6, S6, q6⟩ := hsp
            exact end_ S6 fun s7 J7 => ⟨_, _, J7, q6⟩
          | ret u =>
            obtain ⟨v6, σ6, H6, S6, r6, q6⟩ := hsp
            exact end_ S6 fun s7 J7 => ⟨_, _, _, J7, r6, q6⟩
        | false =>
          show wpAny _ X.A (handleBy (.ref a) X.env hds2) _ _ _
          exact ih _ fl3' up3' (hno rfl)
    exact go hh h3 fl3 up3 w
  · cases f with
    | next =>
      obtain ⟨σ', H', J', q⟩ := hsp
      exact wpAny_execs_nil ⟨σ', H', J'.ofTry ok, q⟩
    | brk =>
      obtain ⟨σ', H', J', q⟩ := hsp
      exact ⟨σ', H', J'.ofTry ok, q⟩
    | cont =>
      obtain ⟨σ', H', J', q⟩ := hsp
      exact ⟨σ', H', J'.ofTry ok, q⟩
    | ret u =>
      obtain ⟨v, σ', H', J', r, q⟩ := hsp
      exact ⟨v, σ', H', J'.ofTry ok, r, q⟩
end
end L2

namespace PySem.W
open PySem PySem.Spec PySem.Calls PyProof.Rows
section
variable {prog : Program} {w : World} {A : Around} {E : Value → Shared → Prop} {s : Shared} {K : Frag} {x D : Addr} {ox : Obj} {od : Option Obj}
theorem findObj_dataO {C : Addr} {name : Str} {a g : Value} (hc : (clsIn K C).isSome = true) (ha : findIn K (.ref C) name = some (some a)) (hg : specialIn K a "__get__" = some (some g)) (ht : takesIn K a = some true) : findObj K C od name = some (.bind g a) := by
  obtain ⟨cd, hc⟩ := Option.isSome_iff_exists.mp hc
  unfold findObj
  rw [hc, Option.bind_some, ha, Option.bind_some]
  simp [hg, ht]
theorem kin_classX {Q : Option Value → Shared → Prop} (C : L2.ExcC K D) (X : K.In s.heap) (I : InstAt s.heap x ox D od) (h : Q (some (.ref D)) { s with toks := s.toks + 1 }) : wpAny (model prog w) A (getAttr? (.ref x) "__class__") Q E s := by
  have hf : findObj K D od "__class__" = some (.bind (.builtin "getset_descriptor.__get__") (.builtin "object.__class__")) := findObj_dataO (by obtain ⟨cd, hc, _⟩ := any_some C.hd; rw [hc]; rfl) C.ha C.hn C.ht
  obtain ⟨hp, g, d, t, os⟩ := s
  have L0 := I.type (M := model prog w)
  have L1 := looks_findIn (M := model prog w) X C.hg
  have L2 := looks_findIn (M := model prog w) X C.hk
  have L3 := looks_find (M := model prog w) X I hf
  have sub : Looks (model prog w) hp (isInstance (.ref x) (.type "BaseException")) true := L0.andThen (looks_subIn X C.hs)
  have hx0 : (false && onTheHeap (Value.builtin "BaseException.__getattribute__")) = false := rfl
  have hx2 : (Value.builtin "BaseException.__getattribute__" == Value.builtin "object.__getattribute__") = false := by decide +kernel
  have hx1 : (onTheHeap (Value.ref D) && Value.builtin "BaseException.__getattribute__" == Value.builtin "object.__getattribute__") = false := by rw [hx2]; rfl
  unfold getAttr? getAttrBy? getAttrBy
  refine wpAny_bind (wpAny_mkText (wpAny_bind (wpAny_attempt (wpAny_holding (wpAny_bind (L0.at (wpAny_bind (L1.at ?_))))))))
  show wpAny _ _ (if (onTheHeap (Value.ref D) && Value.builtin "BaseException.__getattribute__" == Value.builtin "object.__getattribute__") = true then _ else _) _ _ _
  rw [hx1, if_neg Bool.false_ne_true]
  unfold getAttrByItsOwn hookBefore
  refine wpAny_bind ?_
  rw [if_pos (show onTheHeap (Value.ref D) = true from rfl)]
  refine L2.at ?_
  refine wpAny_bind (wpAny_attempt (wpAny_holding ?_))
  unfold callGetattribute
  rw [hx0, if_neg Bool.false_ne_true]
  unfold boundAndCalled
  rw [PySem.F.excAttr_ValueError.ga.bind (.ref x)]
  refine wpAny_bind (wpAny_pure ?_)
  show wpAny _ _ (call (.builtin "BaseException.__getattribute__") [.ref x, .str "__class__" t]) _ _ _
  refine wpAny_call (codeAny_call_builtin PySem.F.excAttr_ValueError.ga.plain PySem.F.entry_bexc_ga ?_)
  refine @check_slot (model prog w) _ _ ⟨hp, g, d, t + 1, os⟩ "BaseException.__getattribute__" "BaseException" "__getattribute__" (.ref x) [.str "__class__" t] [] _ (by decide +kernel) (by decide +kernel) sub (PySem.F.args_bexc_ga (.ref x) (.str "__class__" t)) ?_
  unfold Builtin.«object.__getattribute__»
  refine wpAny_bind (wpAny_of_eq (a := ((Value.ref x : Value), [Value.str "__class__" t])) (by first | rfl | (simp only [slotArgs]; rfl)) ?_)
  refine wpAny_bind (wpAny_pure (wpAny_bind (L0.at (wpAny_bind (L3.at ?_)))))
  show wpAny _ _ (holding [Value.builtin "object.__class__"] (call (.builtin "getset_descriptor.__get__") [.builtin "object.__class__", .ref x, .ref D]) >>= ret) _ _ _
  refine wpAny_bind (wpAny_holding (wpAny_call (class_get (s := ⟨hp, g, d, t + 1, os⟩) (ox := ox) (od := od) X I C.hm ?_)))
  refine wpAny_pure ?_
  show wpAny _ _ (handedOut (.ref D)) _ _ _
  rw [handedOut_of (v := .ref D) rfl]
  first
    | exact wpAny_pure (wpAny_pure h)
    | exact wpAny_pure h
    | exact wpAny_pure (wpAny_bind (wpAny_pure (wpAny_pure h)))
theorem kitx_X (C : L2.ExcC K D) : KitX K (.ref x) (.ref D) (fun h => InstAt h x ox D od) where
  ty := fun _ _ _ I => I.type
  it := fun _ _ X _ => by
    obtain ⟨cdD, hcD, _⟩ := any_some C.hd
    unfold clsIn at hcD
    split at hcD
    · rename_i c' d' cd' sl' ho
      intro A' Q' E' s' k q
      unfold isType loadHead
      exact wpAny_bind (wpAny_loadPart (k _ _ (X _ _ ho)) (wpAny_pure q))
    · cases hcD
  ne := fun h tp dd its n sl X htp => by
    obtain ⟨cdD, hcD, _⟩ := any_some C.hd
    refine Bool.eq_false_iff.mpr fun q => ?_
    have e : D = tp := Value.ref.inj (beq_iff_eq.mp q)
    subst e
    unfold clsIn at hcD
    split at hcD
    · rename_i c' d' cd' sl' ho
      have z := (X _ _ ho).symm.trans htp
      cases z
    · cases hcD
  ca := fun X I k => kin_classX C X I k
end
end PySem.W
namespace Mir
open PySem L2
def rIsX (K : PySem.W.Frag) (D a : Addr) (d : Option Addr) : List V → Hp → VK → Prop := fun xs H Q => ∃ (c : V) (cv : Value) (b : Bool), xs = [.ref a, c] ∧ (∀ u, L2.RelV c u → u = cv) ∧ PySem.W.kitOne K (.ref D) cv = some b ∧ (∃ dd fs, d = some dd ∧ H dd = some (.xd fs)) ∧ Q (.bl b) H
theorem call_isX {X : Cx} {a D : Addr} {oe : Obj} {d : Option Addr} {pn : List (Addr × Obj)} (C : ExcC X.K D) (hz : Zc (.ref D) d oe) (hf : ∃ vs, oe.data = .fields vs) : CallR (X.suite a ((a, oe) :: pn)) (.builtin "isinstance") (rIsX X.K D a d) := by
  intro pins s σ H xs us Q I r h
  obtain ⟨c, cv, b, rfl, hcv, e, ⟨dd, fs, ed, ea⟩, q⟩ := h
  cases r with
  | cons rx rr =>
    cases rr with
    | cons rt rr =>
      cases rr
      cases rx
      have ec := hcv _ rt
      subst ec
      obtain ⟨hget, _⟩ := I.pin (a, oe) (List.mem_append.mpr (.inl List.mem_cons_self))
      obtain ⟨vs, hv⟩ := hf
      have hx : ObjOk X.prog X.w H s.heap dd (.xd fs) := I.hok dd _ ea
      obtain ⟨mA, hns, hr⟩ := hx
      obtain ⟨od, ho, hl⟩ := lookIn_ns hns
      subst ed
      have J : PySem.W.InstAt s.heap a oe D (some od) := ⟨hget, hz.1, by unfold PySem.W.notCls; rw [hv] <;> rfl, by rw [hz.2]; exact ho⟩
      exact PySem.W.kia_one (PySem.W.kitx_X C) I.kIn J e (fun z => nomatch z) fun tk => ⟨.bl b, H, I.kept (t' := tk) fun _ _ z => z, rfl, q⟩
end Mir

namespace Mir
open PySem L2
abbrev MX := Str → XD → MS
abbrev Sb := List (Str × Str × Bool)
def sbAt (T : Sb) (c h : Str) : Option Bool := (T.find? fun q => q.1 == c && q.2.1 == h).map (·.2.2)
def SbOk (K : PySem.W.Frag) (T : Sb) : Prop := ∀ q ∈ T, PySem.W.exmOne K (.ref (He.ga K q.1)) (.ref (He.ga K q.2.1)) = some q.2.2
theorem sb_ok {K : PySem.W.Frag} {T : Sb} {c h : Str} {b : Bool} (ok : SbOk K T) (e : sbAt T c h = some b) : PySem.W.exmOne K (.ref (He.ga K c)) (.ref (He.ga K h)) = some b := by
  unfold sbAt at e
  cases q : T.find? fun q => q.1 == c && q.2.1 == h with
  | none => rw [q] at e; cases e
  | some r =>
    rw [q] at e
    have e : r.2.2 = b := Option.some.inj e
    have hp := List.find?_some q
    have hm := List.mem_of_find?_eq_some q
    rw [Bool.and_eq_true, beq_iff_eq, beq_iff_eq] at hp
    have := ok r hm
    rw [hp.1, hp.2, e] at this
    exact this
def unE (i : Option Nat) (ρ : En) : En := match i with
  | some i => ρ.set i none
  | none => ρ
def hasE (i : Option Nat) (ρ : En) : Bool := match i with
  | some i => decide (i < ρ.length)
  | none => true
def endH (i : Option Nat) (r : RF) : RF := match r with
  | .ok (.nx ρ) S => .ok (.nx (unE i ρ)) S
  | .ok (.bk ρ) S => .ok (.bk (unE i ρ)) S
  | .ok (.ct ρ) S => .ok (.ct (unE i ρ)) S
  | .ok (.rt d) S => .ok (.rt d) S
  | _ => .bad
def tryGo (T : Sb) : List (Str × Option Nat × MX) → En → Str → XD → Sto → RF
  | [], ρ, c, x, S => .ok (.xc ρ c x) S
  | (h, i, m) :: r, ρ, c, x, S => match sbAt T c h with
    | some true => if hasE i ρ = true then endH i (m c x (unE i ρ) S) else .bad
    | some false => tryGo T r ρ c x S
    | none => .bad
def sTry (T : Sb) (b : MS) (hs : List (Str × Option Nat × MX)) : MS := fun ρ S => match b ρ S with
  | .ok (.xc ρ1 c x) S1 => tryGo T hs ρ1 c x S1
  | r => r
def OX (X : Cx) (i : Option Nat) (suite : List Stmt) (m : MX) : Prop := ∀ (a : Addr) (oe : Obj) (c : Str) (d : Option Addr) (pn : List (Addr × Obj)), Zc (.ref (He.ga X.K c)) d oe → (∃ vs, oe.data = .fields vs) →
  ∃ t, PSs (X.suite a ((a, oe) :: pn)) suite t ∧ ∀ (x : XD) (ρ : En) (S : Sto) (io : Io) (F : Hp) (σ : L2.St) (H : Hp) (D : Ends), Sta X.K io F S H → Mir.Env X.K io F ρ σ → (∀ j, i = some j → σ[j]? = some (some (.ref a))) → XRep X.K F H x d →
    RS X.K (m c x ρ S) io F H D W0 → t D σ H
def tX (K : PySem.W.Frag) (i : Option Nat) (m : MX) (a : Addr) (cls : Value) (d : Option Addr) : TS := fun D σ H => ∃ (c : Str) (x : XD) (ρ : En) (S : Sto) (io : Io) (F : Hp), cls = .ref (He.ga K c) ∧ Sta K io F S H ∧ Mir.Env K io F ρ σ ∧ (∀ j, i = some j → σ[j]? = some (some (.ref a))) ∧ XRep K F H x d ∧ RS K (m c x ρ S) io F H D W0
theorem OX.pss {X : Cx} {i : Option Nat} {suite : List Stmt} {m : MX} (h : OX X i suite m) (a : Addr) (oe : Obj) (cls : Value) (d : Option Addr) (pn : List (Addr × Obj)) (hz : Zc cls d oe) (hf : ∃ vs, oe.data = .fields vs) : PSs (X.suite a ((a, oe) :: pn)) suite (tX X.K i m a cls d) :=
  ⟨fun pins s σ H D I ⟨c, x, ρ, S, io, F, e, st, en, sl, xr, q⟩ => by
    subst e
    obtain ⟨t, p, ht⟩ := h a oe c d pn hz hf
    exact p.run pins s σ H D I (ht x ρ S io F σ H D st en sl xr q)⟩
inductive HdM (X : Cx) : List ExceptHandler → List (Str × Option Nat × MX) → Prop
  | nil : HdM X [] []
  | cons {x : Str} {m : MX} {b₀ : Stmt} {suite : List Stmt} {np pos' : Pos} {hds : List ExceptHandler} {l : List (Str × Option Nat × MX)} (hc : Names X x (.ref (He.ga X.K x))) (hx : OX X none (b₀ :: suite) m) (r : HdM X hds l) :
      HdM X (.ExceptHandler (some (.Name x np)) none (b₀ :: suite) pos' :: hds) ((x, none, m) :: l)
  | as_ {x n : Str} {i : Nat} {m : MX} {b₀ : Stmt} {suite : List Stmt} {np pos' : Pos} {hds : List ExceptHandler} {l : List (Str × Option Nat × MX)} (hc : Names X x (.ref (He.ga X.K x))) (hN : X.N.Nodup) (hi : X.N[i]? = some n) (hln : X.env.kindOf n = some .local)
      (hx : OX X (some i) (b₀ :: suite) m) (r : HdM X hds l) : HdM X (.ExceptHandler (some (.Name x np)) (some n) (b₀ :: suite) pos' :: hds) ((x, some i, m) :: l)
  | tup {x1 x2 x3 n : Str} {i kk : Nat} {m : MX} {b₀ : Stmt} {suite : List Stmt} {p1 p2 p3 np pos' : Pos} {hds : List ExceptHandler} {l : List (Str × Option Nat × MX)} (hc1 : Names X x1 (.ref (He.ga X.K x1))) (hc2 : Names X x2 (.ref (He.ga X.K x2))) (hc3 : Names X x3 (.ref (He.ga X.K x3)))
      (e1 : PySem.W.exmOne X.K (.ref (He.ga X.K x1)) (.ref (He.ga X.K x1)) = some true) (e2 : PySem.W.exmOne X.K (.ref (He.ga X.K x2)) (.ref (He.ga X.K x2)) = some true) (e3 : PySem.W.exmOne X.K (.ref (He.ga X.K x3)) (.ref (He.ga X.K x3)) = some true)
      (hN : X.N.Nodup) (hi : X.N[i]? = some n) (hln : X.env.kindOf n = some .local) (hx : OX X (some i) (b₀ :: suite) m) (r : HdM X hds l) :
      HdM X (.ExceptHandler (some (.Tuple [.Name x1 p1, .Name x2 p2, .Name x3 p3] kk np)) (some n) (b₀ :: suite) pos' :: hds) ((x1, some i, m) :: (x2, some i, m) :: (x3, some i, m) :: l)
theorem Env.len {K : PySem.W.Frag} {io : Io} {F : Hp} : ∀ {ρ : En} {σ : L2.St}, Mir.Env K io F ρ σ → σ.length = ρ.length
  | [], σ, h => by
    have h : σ = [] := h
    rw [h]
    rfl
  | d :: ρ, σ, h => by
    obtain ⟨o, r, e, _, t⟩ := h
    rw [e, List.length_cons, List.length_cons, Env.len t]
theorem endH_ok {K : PySem.W.Frag} {i : Option Nat} {r : RF} {io : Io} {F H : Hp} {D : Ends} {W : WX} (h : RS K (endH i r) io F H D W) :
    RS K r io F H { nx := fun σ' H' => D.nx (slotO i none σ') H', rt := D.rt, bk := fun σ' H' => D.bk (slotO i none σ') H', ct := fun σ' H' => D.ct (slotO i none σ') H' } W0 := by
  have key : ∀ {io' : Io} {F' : Hp} {ρ : En} {σ : L2.St}, Mir.Env K io' F' ρ σ → Mir.Env K io' F' (unE i ρ) (slotO i none σ) := fun {io' F' ρ σ} en => by
    cases i with
    | none => exact en
    | some i => exact en.unset i none
  cases r with
  | bad => exact h
  | ok f S =>
    cases f with
    | nx ρ => exact fun io' F' H' σ' n s en => h io' F' H' _ n s (key en)
    | bk ρ => exact fun io' F' H' σ' n s en => h io' F' H' _ n s (key en)
    | ct ρ => exact fun io' F' H' σ' n s en => h io' F' H' _ n s (key en)
    | rt d => exact h
    | xc ρ c x => exact h.elim
theorem hds_ok {X : Cx} {T : Sb} (ok : SbOk X.K T) {hds : List ExceptHandler} {hs : List (Str × Option Nat × MX)} (h : HdM X hds hs) : ∃ l, HdsA X hds l ∧ ∀ (ρ : En) (c : Str) (x : XD) (S : Sto) (io : Io) (F : Hp) (σ : L2.St) (H : Hp) (D : Ends) (d : Option Addr) (W : WX),
    Sta X.K io F S H → Mir.Env X.K io F ρ σ → XRep X.K F H x d → RS X.K (tryGo T hs ρ c x S) io F H D W → wMas X.K W D l (.ref (He.ga X.K c)) d σ H := by
  have step : ∀ {h0 : Str} {i : Option Nat} {m : MX} {l : List (Str × Option Nat × MX)} {l' : List Cls1}, (∀ (ρ : En) (c : Str) (x : XD) (S : Sto) (io : Io) (F : Hp) (σ : L2.St) (H : Hp) (D : Ends) (d : Option Addr) (W : WX),
      Sta X.K io F S H → Mir.Env X.K io F ρ σ → XRep X.K F H x d → RS X.K (tryGo T l ρ c x S) io F H D W → wMas X.K W D l' (.ref (He.ga X.K c)) d σ H) →
      ∀ (ρ : En) (c : Str) (x : XD) (S : Sto) (io : Io) (F : Hp) (σ : L2.St) (H : Hp) (D : Ends) (d : Option Addr) (W : WX),
      Sta X.K io F S H → Mir.Env X.K io F ρ σ → XRep X.K F H x d → RS X.K (tryGo T ((h0, i, m) :: l) ρ c x S) io F H D W → wMas X.K W D ((.ref (He.ga X.K h0), i, tX X.K i m) :: l') (.ref (He.ga X.K c)) d σ H := by
    intro h0 i m l l' ih ρ c x S io F σ H D d W st en xr hh
    have hh : RS X.K (match sbAt T c h0 with
      | some true => if hasE i ρ = true then endH i (m c x (unE i ρ) S) else .bad
      | some false => tryGo T l ρ c x S
      | none => .bad) io F H D W := hh
    cases q : sbAt T c h0 with
    | none => rw [q] at hh; exact hh.elim
    | some b =>
      rw [q] at hh
      refine ⟨b, sb_ok ok q, fun hb a na => ?_, fun hb => ?_⟩
      · subst hb
        dsimp only at hh
        by_cases he : hasE i ρ = true
        · rw [if_pos he] at hh
          refine ⟨c, x, unE i ρ, S, io, F, rfl, st, ?_, fun j hj => ?_, xr, endH_ok hh⟩
          · cases i with
            | none => exact en
            | some i => exact en.unset i _
          · subst hj
            have hlt : j < ρ.length := of_decide_eq_true he
            show (σ.set j (some (.ref a)))[j]? = _
            rw [List.getElem?_set_self (by rw [Env.len en]; exact hlt)]
        · rw [if_neg he] at hh
          exact hh.elim
      · subst hb
        exact ih ρ c x S io F σ H D d W st en xr hh
  induction h with
  | nil => exact ⟨[], .nil, fun ρ c x S io F σ H D d W st en xr h => h io F H d σ Nxt.refl st en xr⟩
  | cons hc hx r ih =>
    obtain ⟨l', hl, ih⟩ := ih
    exact ⟨_, .cons hc (fun a oe cls d pn hz hf => hx.pss a oe cls d pn hz hf) hl, step ih⟩
  | as_ hc hN hi hln hx r ih =>
    obtain ⟨l', hl, ih⟩ := ih
    exact ⟨_, .as_ hc hN hi hln (fun a oe cls d pn hz hf => hx.pss a oe cls d pn hz hf) hl, step ih⟩
  | tup hc1 hc2 hc3 e1 e2 e3 hN hi hln hx r ih =>
    obtain ⟨l', hl, ih⟩ := ih
    exact ⟨_, .tup hc1 hc2 hc3 e1 e2 e3 hN hi hln (fun a oe cls d pn hz hf => hx.pss a oe cls d pn hz hf) hl, step (step (step ih))⟩
end Mir

namespace Mir
open PySem L2
theorem XRep.nxt {K : PySem.W.Frag} {io io1 : Io} {F F1 H H1 : Hp} {x : XD} {d : Option Addr} (n : Nxt io F H io1 F1 H1) (h : XRep K F H x d) : XRep K F1 H1 x d := by
  cases x with
  | none => exact h
  | some q =>
    obtain ⟨ns, xs⟩ := q
    obtain ⟨a, gs, e, ha, hn, r⟩ := h
    exact ⟨a, gs, e, n.fr _ _ ha, hn, RepL.mono n.fr r⟩
abbrev E0 : XK := fun _ _ _ => False
structure SX (K : PySem.W.Frag) (i : Nat) (a : Addr) (d : Option Addr) (x : XD) (F H : Hp) (σ : L2.St) : Prop where
  sl : σ[i]? = some (some (.ref a))
  xr : XRep K F H x d
theorem SX.nxt {K : PySem.W.Frag} {i : Nat} {a : Addr} {d : Option Addr} {x : XD} {io io1 : Io} {F F1 H H1 : Hp} {σ : L2.St} (s : SX K i a d x F H σ) (n : Nxt io F H io1 F1 H1) : SX K i a d x F1 H1 σ := ⟨s.sl, s.xr.nxt n⟩
section
variable (X : Cx) (i : Nat)
def OEX (e : Expr) (m : Str → XD → ME) : Prop := ∀ (a : Addr) (oe : Obj) (c : Str) (d : Option Addr) (pn : List (Addr × Obj)), Zc (.ref (He.ga X.K c)) d oe → (∃ vs, oe.data = .fields vs) →
  ∃ t, PE (X.suite a ((a, oe) :: pn)) e t ∧ ∀ (x : XD) (ρ : En) (S : Sto) (io : Io) (F : Hp) (σ : L2.St) (H : Hp) (Q : VK), Sta X.K io F S H → Mir.Env X.K io F ρ σ → SX X.K i a d x F H σ → RG X.K (RepA X.K) (m c x ρ S) io F H Q E0 → t σ H Q
def OTX (e : Expr) (m : Str → XD → MT) : Prop := ∀ (a : Addr) (oe : Obj) (c : Str) (d : Option Addr) (pn : List (Addr × Obj)), Zc (.ref (He.ga X.K c)) d oe → (∃ vs, oe.data = .fields vs) →
  ∃ t, PT (X.suite a ((a, oe) :: pn)) e t ∧ ∀ (x : XD) (ρ : En) (S : Sto) (io : Io) (F : Hp) (σ : L2.St) (H : Hp) (Q : Bool → Hp → Prop), Sta X.K io F S H → Mir.Env X.K io F ρ σ → SX X.K i a d x F H σ → RG X.K RepB (m c x ρ S) io F H Q E0 → t σ H Q
def OAX (es : List Expr) (m : Str → XD → MA) : Prop := ∀ (a : Addr) (oe : Obj) (c : Str) (d : Option Addr) (pn : List (Addr × Obj)), Zc (.ref (He.ga X.K c)) d oe → (∃ vs, oe.data = .fields vs) →
  ∃ t, PA (X.suite a ((a, oe) :: pn)) es t ∧ ∀ (x : XD) (ρ : En) (S : Sto) (io : Io) (F : Hp) (σ : L2.St) (H : Hp) (Q : List V → Hp → Prop), Sta X.K io F S H → Mir.Env X.K io F ρ σ → SX X.K i a d x F H σ → RG X.K (RepAs X.K) (m c x ρ S) io F H Q E0 → t σ H Q
end
section
variable {X : Cx} {i : Nat} {e a b cc : Expr} {es : List Expr} {m ma mb : Str → XD → ME} {mt mu : Str → XD → MT} {mas : Str → XD → MA} {pos p : Pos}
theorem oex_of {m : ME} (h : ∀ (a : Addr) (oe : Obj) (pn : List (Addr × Obj)), OE (X.suite a ((a, oe) :: pn)) W0 e m) : OEX X i e (fun _ _ => m) := fun a oe c d pn hz hf => by
  obtain ⟨t, q, h⟩ := h a oe pn
  exact ⟨t, q, fun x ρ S io F σ H Q st en sx hh => h ρ S io F σ H Q st en hh⟩
theorem oax_nil : OAX X i [] (fun _ _ => aNil) := fun a oe c d pn hz hf => ⟨_, pa_nil, fun x ρ S io F σ H Q st en sx h => RG.val (R := RepAs X.K) (d := []) (v := []) st rfl h⟩
theorem oax_cons (ha : OEX X i a ma) (hr : OAX X i es mas) (hs : starEach (a :: es) X.env = (false, eval a X.env) :: starEach es X.env := by rfl) : OAX X i (a :: es) (fun c x => aCons (ma c x) (mas c x)) := fun a oe c d pn hz hf => by
  obtain ⟨t, p, ha⟩ := ha a oe c d pn hz hf
  obtain ⟨u, q, hr⟩ := hr a oe c d pn hz hf
  refine ⟨_, pa_cons p q hs, fun x ρ S io F σ H Q st en sx h => ?_⟩
  refine ha x ρ S io F σ H _ st en sx (RG.bind h fun d S1 io1 F1 H1 v e1 n1 s1 r1 h1 => ?_)
  refine hr x ρ S1 io1 F1 σ H1 _ s1 (en.nxt n1) (sx.nxt n1) (RG.bind h1 fun d2 S2 io2 F2 H2 v2 e2 n2 s2 r2 h2 => ?_)
  exact RG.val (R := RepAs X.K) (d := d :: d2) s2 ⟨v, v2, rfl, r1.mono n2.han n2.fr, r2⟩ h2
theorem oex_tup {k : Nat} (h : OAX X i es mas) : OEX X i (.Tuple es k pos) (fun c x => eTup (mas c x)) := fun a oe c d pn hz hf => by
  obtain ⟨t, p, h⟩ := h a oe c d pn hz hf
  refine ⟨_, pe_tup p, fun x ρ S io F σ H Q st en sx hw => ?_⟩
  refine h x ρ S io F σ H _ st en sx (RG.bind hw fun d S1 io1 F1 H1 v e1 n1 s1 r1 h1 => ?_)
  obtain ⟨xs, S2, F2, n2, s2, rp, h2⟩ := s1.frzs r1 h1
  have hlen := rp.length
  by_cases hz : xs.length ≤ 100000
  · rw [if_pos hz] at h2
    refine ⟨by rw [hlen]; exact sz5 hz, fun q hq => ?_⟩
    obtain ⟨s3, n3⟩ := s2.froze (o := .tup v) hq
    exact h2 io1 _ _ (.ref q) n3 s3 ⟨q, v, rfl, SqT.of upd_same, RepL.mono n3.fr rp⟩
  · rw [if_neg hz] at h2
    exact h2.elim
theorem otx_val (he : OEX X i e m) (hs : ∀ whole, isTrue e X.env whole = (do let v ← whole; standAt e.pos; holding [v] (truthy v)) := by intro _; rfl) : OTX X i e (fun c x => tVal (m c x)) := fun a oe c d pn hz hf => by
  obtain ⟨t, p, he⟩ := he a oe c d pn hz hf
  refine ⟨tB t, pt_val p hs, fun x ρ S io F σ H Q st en sx h => ?_⟩
  exact he x ρ S io F σ H _ st en sx (RG.bind h fun d S1 io1 F1 H1 v e1 n1 s1 r1 h1 => tst_go s1 r1 h1)
theorem lookup_zip {K : PySem.W.Frag} {F : Hp} {f : Str} : ∀ {ns : List Str} {xs : List P} {gs : List (Str × V)} {z : P}, gs.map (·.1) = ns → RepL K F xs (gs.map (·.2)) → (ns.zip xs).lookup f = some z → ∃ v, gs.lookup f = some v ∧ Rep K F z v
  | [], xs, gs, z, hn, r, e => by cases e
  | n :: ns, [], gs, z, hn, r, e => by cases e
  | n :: ns, x :: xs, [], z, hn, r, e => by cases hn
  | n :: ns, x :: xs, (g, v) :: gs, z, hn, r, e => by
    have hg : g = n := (List.cons.inj hn).1
    have hn2 : gs.map (·.1) = ns := (List.cons.inj hn).2
    obtain ⟨v', r', e', rx, rr⟩ := r
    obtain ⟨ev, er⟩ := List.cons.inj e'
    have ev : v = v' := ev
    have er : gs.map (·.2) = r' := er
    subst ev er hg
    rw [List.zip_cons_cons, List.lookup_cons] at e
    rw [List.lookup_cons]
    cases q : f == g with
    | true =>
      rw [q] at e
      cases e
      exact ⟨v, rfl, rx⟩
    | false =>
      rw [q] at e
      exact lookup_zip hn2 rr e
def eXf (h f : Str) : Str → XD → ME := fun c x _ S => if c = h then (match x with
  | some (ns, xs) => (match (ns.zip xs).lookup f with
    | some z => .ok (.p z) S
    | none => .bad)
  | none => .bad) else .bad
theorem oex_fld {h f n : Str} (T : XfC X.K (He.ga X.K h)) (hno : PySem.W.findIn X.K (.ref (He.ga X.K h)) f = some none) (hN : X.N[i]? = some n) (hv : Vis X.env.scope n) (hb : attributeBase (.Name n p) f X.env (eval (.Name n p) X.env) = eval (.Name n p) X.env := by rfl)
    (hd : (n == ("__debug__" : Str)) = false := by decide) (hcd : (n == ("__classdict__" : Str)) = false := by decide) : OEX X i (.Attribute (.Name n p) f pos) (eXf h f) := fun a oe c d pn hz hf => by
  refine ⟨_, pe_xf T hno hz hf (pe_var (X := X.suite a ((a, oe) :: pn)) hN hv hd hcd) hb, fun x ρ S io F σ H Q st en sx hh => ?_⟩
  refine ⟨.ref a, sx.sl, rfl, ?_⟩
  unfold eXf at hh
  by_cases q : c = h
  · rw [if_pos q] at hh
    subst q
    cases x with
    | none => exact hh.elim
    | some q =>
      obtain ⟨ns, xs⟩ := q
      obtain ⟨dd, gs, ed, ha, hn, r⟩ := sx.xr
      dsimp only at hh
      cases e : (ns.zip xs).lookup f with
      | none => rw [e] at hh; exact hh.elim
      | some z =>
        rw [e] at hh
        obtain ⟨v, hl, rv⟩ := lookup_zip hn r e
        exact ⟨rfl, dd, gs, v, ed, st.sub _ _ ha, hl, hh io F H v Nxt.refl st rv⟩
  · rw [if_neg q] at hh
    exact hh.elim
end
end Mir

namespace Mir
open PySem PySem.Spec PyProof.Rows LamX
section
variable {X : L2.Cx} {pins : List (Addr × Obj)} {σ : L2.St} {H : L2.Hp} {s : Shared}
inductive TabStep (H : L2.Hp) (P : Addr) (ps : Array Value) (q : Str) (c' : Addr) : L2.Hp → Prop
  | hit (h : H c' = some (CodeO c' q)) (pos : Pos) (e : codeAmong pos ps.toList = some (.ref c')) : TabStep H P ps q c' H
  | new (more : Array Value) (h : H c' = none) (t : TriplesOk (ps ++ more).toList) (a : ∀ (p : Pos) (cv : Value), codeAmong p (ps ++ more).toList = some cv → codeAmong p ps.toList = some cv ∨ cv = .ref c') : TabStep H P ps q c' (L2.upd (L2.upd H P (.tbl (ps ++ more))) c' (CodeO c' q))
theorem lam_mk {c P : Addr} {ps : Array Value} {params : Arguments} {body : Expr} {scope : Scope} {pos : Pos} {E : Value → Shared → Prop} {Q : Value → Shared → Prop} (I : L2.Inv X pins σ H s) (TB : TabB X.base X.mg c P) (hcode : X.env.code = .ref c)
    (hP : H P = some (.tbl ps)) (ht : TriplesOk ps.toList) (ha : ∀ (p : Pos) (cv : Value), codeAmong p ps.toList = some cv → ∃ c, cv = .ref c ∧ H c = some (CodeO c (X.env.qual ++ "<lambda>")))
    (hdef : defaultsOf params X.env = ([], [])) (hfree : ∀ y ∈ scope.names, y.2 = .free → ∃ c, X.env.cells.lookup y.1 = some c)
    (h : ∀ (f c' : Addr) (pm ctv : Value) (H1 : L2.Hp) (s' : Shared), L2.Inv X pins σ H1 s' → TabStep H P ps (X.env.qual ++ "<lambda>") c' H1 →
      s'.heap.get? f = some (PySem.W.kla_obj "<lambda>" (X.env.qual ++ "<lambda>") params body scope (L2.cloFrom X.env.cells scope.names []) pm c' ctv) → H1 f = none → f ∉ L2.frs X.stack → H1 c' = some (CodeO c' (X.env.qual ++ "<lambda>")) → Q (.ref f) s') :
    wpAny (model X.prog X.w) X.A (eval (.Lambda params body scope pos) X.env) Q E s := by
  refine PySem.W.kla_eval hdef ?_
  have bP : s.heap.BuiltinsAt X.mg P := TB.bm.keeps I.bk
  have hP' : s.heap.get? P = some { cls := .none, data := .fields ps } := I.hok P _ hP
  have nofr : ∀ f, s.heap.objs.size ≤ f → f ∉ L2.frs X.stack := fun f hf z => by
    rcases List.mem_cons.mp (I.stkSub _ z) with e | e
    · have h1 := I.lt
      rw [← e] at h1
      exact Nat.lt_irrefl _ (Nat.lt_of_lt_of_le h1 hf)
    · exact I.nofs hf e
  cases hc : codeAmong pos ps.toList with
  | none =>
    refine PySem.W.kla_makeFunction (mg := X.mg) (c := c) (P := P) (ps := ps) (L2.closure_ok hfree) I.ok.glob (I.mod.glob.keeps I.bk) hcode (TB.code.keeps I.bk) hP' ht hc TB.gP bP fun c' ctv h' tk hx hge hlt hrec htb => ?_
    obtain ⟨c2, oc, vs, t, e2, hoc, hd, hv⟩ := hrec
    cases e2
    have hsz : s.heap.objs.size ≤ h'.objs.size := Nat.le_trans hge (Nat.le_of_lt hlt)
    have nC : H c' = none := I.hok.fresh hge
    have I1 := inv_table (t' := tk) (more := #[rawInt pos.line, rawInt pos.col, .ref c']) (h' := h'.push (PySem.W.kla_obj "<lambda>" (X.env.qual ++ "<lambda>") params body scope (L2.cloFrom X.env.cells scope.names []) ((X.mg "__name__").getD .none) c' ctv)) I hP
      (fun b o hb e => Heap.get?_push_of_some _ (hx b o hb e)) (Heap.get?_push_of_some _ htb) hge ⟨oc, vs, t, Heap.get?_push_of_some _ hoc, hd, hv⟩
    have eL : (ps ++ #[rawInt pos.line, rawInt pos.col, .ref c']).toList = ps.toList ++ [rawInt pos.line, rawInt pos.col, .ref c'] := by simp
    refine h h'.objs.size c' ((X.mg "__name__").getD .none) ctv _ _ I1 (.new _ nC (by rw [eL]; exact PySem.TriplesOk_snoc _ _ _ _ ht) fun p' cv hcv => ?_) (Heap.get?_push_size _ rfl) ?_ (nofr _ hsz) L2.upd_same
    · rw [eL] at hcv
      exact among_app _ ht hcv
    · have n1 : h'.objs.size ≠ c' := Nat.ne_of_gt hlt
      have n2 : h'.objs.size ≠ P := Nat.ne_of_gt (Nat.lt_of_lt_of_le (Heap.lt_size hP') hsz)
      rw [L2.upd_ne n1, L2.upd_ne n2]
      exact I.hok.fresh hsz
  | some cv =>
    obtain ⟨c', e, hco⟩ := ha pos cv hc
    subst e
    refine PySem.W.kla_makeFunctionHit (mg := X.mg) (c := c) (P := P) (ps := ps) (L2.closure_ok hfree) I.ok.glob (I.mod.glob.keeps I.bk) hcode (TB.code.keeps I.bk) hP' ht hc bP fun ctv h' tk hx hsz => ?_
    have I1 : L2.Inv X pins σ H { s with heap := h'.push (PySem.W.kla_obj "<lambda>" (X.env.qual ++ "<lambda>") params body scope (L2.cloFrom X.env.cells scope.names []) ((X.mg "__name__").getD .none) c' ctv), toks := tk } := I.kept fun b o e => Heap.get?_push_of_some _ (hx b o e)
    exact h h'.objs.size c' ((X.mg "__name__").getD .none) ctv H _ I1 (.hit hco pos hc) (Heap.get?_push_size _ rfl) (I.hok.fresh hsz) (nofr _ hsz) hco
end
open L2 in
theorem Sta.tab {K : PySem.W.Frag} {io : Io} {F H H1 : L2.Hp} {S : Sto} {k : Nat} {x : Str} {c' : Addr} {q : Str} {ps : Array Value} (st : Sta K io F S H) (hk : S[k]? = some (.tbl x q)) (hP0 : H (lamT K x) = some (.tbl ps)) (h0 : TabStep H (lamT K x) ps q c' H1) :
    ∃ F1, Nxt io F H io F1 H1 ∧ Sta K io F1 S H1 ∧ F1 c' = some (CodeO c' q) := by
  obtain ⟨P, eP⟩ : ∃ P, P = lamT K x := ⟨_, rfl⟩
  have hP : H P = some (.tbl ps) := by rw [eP]; exact hP0
  have h : TabStep H P ps q c' H1 := by rw [eP]; exact h0
  obtain ⟨h1, h2, ps', h3, h4, h5⟩ := st.cel k _ hk
  rw [← eP] at h1 h2 h3
  rw [hP] at h3
  cases h3
  cases h with
  | hit hc pos e =>
    obtain ⟨c, e1, e2⟩ := h5 pos _ e
    cases e1
    exact ⟨F, Nxt.refl, st, e2⟩
  | new more hc ht ha =>
    obtain ⟨s1, n1⟩ := st.froze (o := CodeO c' q) hc
    have hne : P ≠ c' := fun z => by rw [z, hc] at hP; cases hP
    have hF1 : upd F c' (CodeO c' q) P = none := by rw [upd_ne hne]; exact h2
    have key : CellAt K io (upd F c' (CodeO c' q)) (upd (upd H c' (CodeO c' q)) P (.tbl (ps ++ more))) k (.tbl x q) := by
      show io[k]? = some (some (lamT K x)) ∧ _ ∧ _
      rw [← eP]
      refine ⟨h1, hF1, ps ++ more, upd_same, ht, fun p cv e => ?_⟩
      rcases ha p cv e with z | z
      · obtain ⟨c, e1, e2⟩ := h5 p cv z
        exact ⟨c, e1, n1.fr _ _ e2⟩
      · exact ⟨c', z, upd_same⟩
    have hH : upd (upd H c' (CodeO c' q)) P (.tbl (ps ++ more)) = upd (upd H P (.tbl (ps ++ more))) c' (CodeO c' q) := by
      funext b
      by_cases q1 : b = P
      · subst q1
        rw [upd_same, upd_ne hne, upd_same]
      · rw [upd_ne q1]
        by_cases q2 : b = c'
        · subst q2
          rw [upd_same, upd_same]
        · rw [upd_ne q2, upd_ne q2, upd_ne q1]
    obtain ⟨s2, n2⟩ := s1.write h1 hF1 key
    rw [hH] at s2 n2
    rw [show S.set k (.tbl x q) = S from List.ext_getElem? fun j => by
      by_cases hj : j = k
      · subst hj
        rw [List.getElem?_set_self (List.getElem?_eq_some_iff.mp hk).1, hk]
      · rw [List.getElem?_set_ne (Ne.symm hj)]] at s2
    exact ⟨_, n1.trans n2, s2, upd_same⟩
end Mir

namespace Mir
open PySem PySem.Spec PyProof.Rows LamX
section
variable {X : L2.Cx} {pins : List (Addr × Obj)} {σ : L2.St} {H : L2.Hp} {s : Shared}
theorem pe_actG {CXg : L2.CXT} {Eg : L2.XK} {Ng : List Str} {qg : Str} {sg : Scope} {g f c' : Addr} {cdg pm ctv : Value} {params : Arguments} {body : Expr} {scope : Scope} {k i : Nat} {a : Str} {pn : List (Addr × Obj)} {xe : Value → Shared → Prop} {W : L2.WX} {tb : L2.XK → L2.TE} {p1 p2 : Pos}
    (I : L2.Inv X pins σ H s) (L : LamS X.env.scope scope) (hf : s.heap.get? f = some (PySem.W.kla_obj "<lambda>" (X.env.qual ++ "<lambda>") params body scope (L2.cloFrom X.env.cells scope.names []) pm c' ctv)) (hfn : H f = none) (hfr : f ∉ L2.frs X.stack)
    (hbind : bindArgs (PySem.W.kla_fn "<lambda>" (X.env.qual ++ "<lambda>") params body scope (L2.cloFrom X.env.cells scope.names []) pm (.ref c') ctv) ⟨[], []⟩ = pure [])
    (tk : L2.Takes ((L2.cxOf CXg X.prog X.w X.K X.mg X.base Ng qg sg g cdg X.A X.stack s H Eg).tr pn xe) W) (hr : RoomG (k + 1) (X.A.deeper (envOfC qg sg s.heap.objs.size g cdg)))
    (hbody : ∀ (E : L2.XK) (A : Around) (outer : List PySem.Env) (s : Shared) (H : L2.Hp), RoomG k (A.deeper (lamEnv X scope s.heap.objs.size f c')) → L2.PE (lamCx X A outer s H E scope f c') body (tb E))
    (hN : Ng[i]? = some a) (hv : L2.Vis sg a) (hd : (a == ("__debug__" : Str)) = false := by decide) (hcd : (a == ("__classdict__" : Str)) = false := by decide) :
    L2.PE ((L2.cxOf CXg X.prog X.w X.K X.mg X.base Ng qg sg g cdg X.A X.stack s H Eg).tr pn xe) (.Call (.Name a p1) [] [] p2)
      (fun σZ HZ Q => σZ[i]? = some (some (.ref f)) ∧ HZ c' = some (CodeO c' (X.env.qual ++ "<lambda>")) ∧ tb (L2.WE W σZ) σ HZ Q) := by
  refine ⟨fun pinsZ sZ σZ HZ Q IZ h => ?_⟩
  obtain ⟨hs, hc, ht⟩ := h
  refine wpAny_Call_Name_kw (L2.thn ((L2.pe_var (pos := p1) (i := i) hN hv hd hcd).run pinsZ sZ σZ HZ (fun v H1 => v = .ref f ∧ H1 = HZ) IZ ⟨.ref f, hs, rfl, rfl⟩) fun u s1 ⟨v, H1, I1, r1, q1⟩ => ?_)
  obtain ⟨ev, eH⟩ := q1
  subst ev
  rw [eH] at I1
  obtain rfl : u = Value.ref f := r1
  have of1 : s1.heap.get? f = some (PySem.W.kla_obj "<lambda>" (X.env.qual ++ "<lambda>") params body scope (L2.cloFrom X.env.cells scope.names []) pm c' ctv) := I1.base.keep f _ hf hfn hfr (fun z => nomatch (show f ∈ ([] : List Addr) from z))
  refine PySem.W.callWith_F0 ⟨_, _, _, _, of1⟩ ?_
  have un : L2.Un (L2.frs X.stack) [] H HZ s.heap s1.heap := I1.base
  obtain ⟨⟨oc, vs, t, hoc, hdc, hvc⟩, _, _⟩ := I1.hok c' _ hc
  have rc : codeAny (model X.prog X.w) (X.A.deeper (envOfC qg sg s.heap.objs.size g cdg)) (.call (.ref f) ⟨[], []⟩) (L2.CR (L2.CX X.prog X.w) (envOfC qg sg s.heap.objs.size g cdg :: X.stack) X.prog X.w HZ s1 Q (L2.WE W σZ)) s1 := by
    refine PySem.W.kla_callFunE hr.r.depth of1 rfl L.co L.gen rfl ⟨c', oc, vs, t, rfl, hoc, hdc, hvc⟩ ?_
    rw [hbind]
    refine wpAny_pure (wpAny_newFunctionEnv (fun y hy => (L.own y hy).2) (fun y hy => absurd hy (by simp)) (fun h₁ hns hsb => ⟨I1.nolimit.fresh _ hsb, ?_⟩) L.kind)
    show codeAny _ _ (.expr body (lamEnv X scope s1.heap.objs.size f c')) _ _
    have kp : ∀ b o, s1.heap.get? b = some o → h₁.get? b = some o := fun b o e => hsb.extBut b o (Nat.ne_of_lt (Heap.lt_size e)) (Heap.get?_push_of_some _ e)
    have J : L2.Inv (lamCx X (X.A.deeper (envOfC qg sg s.heap.objs.size g cdg)) (envOfC qg sg s.heap.objs.size g cdg :: X.stack) s1 HZ (L2.WE W σZ) scope f c') [] σ HZ { s1 with heap := h₁, toks := s1.toks + ([] : List (Str × Value)).length } :=
      lam_start2 I L I1.env0 hr.r.hd un hns kp
    refine PySem.W.kla_codeExpr (wpAny_mono ((hbody (L2.WE W σZ) _ _ s1 HZ (hr.deeper _)).run [] _ _ HZ Q J ht) (fun v s' hq => ?_) fun e s' hq => hq)
    obtain ⟨w', H', J', rv, q⟩ := hq
    exact ⟨w', H', J'.os, J'.bare, J'.base, J'.hok, rv, q⟩
  refine wpAny_call (codeAny_mono rc fun r s' hq => ?_)
  cases r with
  | error e => exact tk _ _ (L2.XE.of_call I1 (fun _ _ _ z => z) hq)
  | ok fl =>
    cases fl with
    | ret u => exact I1.after hq
    | next => exact False.elim hq
    | brk => exact False.elim hq
    | cont => exact False.elim hq
end
end Mir
namespace Mir
open PySem L2
def setO (i : Option Nat) (d : Vl) (ρ : En) : En := match i with
  | some i => ρ.set i (some d)
  | none => ρ
def jobS (i : Option Nat) (j : Sto → Res Vl) : MS := fun ρ S => (j S).go ρ fun d S1 => .ok (.nx (setO i d ρ)) S1
theorem job_body {Z : Cx} {W : WX} {T : Sb} {f c' : Addr} {q : Str} {tl : XK → Hp → VK → Prop} {a : Str} {p1 p2 pos : Pos} {jst : Stmt} {i : Option Nat} {h₀ : ExceptHandler} {hds : List ExceptHandler} {hs : List (Str × Option Nat × MX)} {rest : List Stmt} {mr : MS}
    (ok : SbOk Z.K T) (hst : Z.stack = Z.env :: Z.outer) (hf : Z.env.frame = some Z.env.locals) (tk : Takes Z W)
    (act : ∀ (W' : WX) (pn : List (Addr × Obj)) (xe : Value → Shared → Prop), Takes (Z.tr pn xe) W' → PE (Z.tr pn xe) (.Call (.Name a p1) [] [] p2) (fun σZ HZ Q => σZ[0]? = some (some (.ref f)) ∧ HZ c' = some (LamX.CodeO c' q) ∧ tl (WE W' σZ) HZ Q))
    (hj : ∀ (pn : List (Addr × Obj)) (xe : Value → Shared → Prop) (t : TE), PE (Z.tr pn xe) (.Call (.Name a p1) [] [] p2) t → PSs (Z.tr pn xe) [jst] (fun D σ H => t σ H fun v H1 => D.nx (slotO i (some v) σ) H1))
    (hh : HdM Z (h₀ :: hds) hs) (hr : OSs Z W rest mr) :
    ∃ t, PSs Z (.Try [jst] (h₀ :: hds) [] [] pos :: rest) t ∧ ∀ (j : Sto → Res Vl) (ρ : En) (S : Sto) (io : Io) (F : Hp) (σ : L2.St) (H : Hp) (D : Ends), Sta Z.K io F S H → Mir.Env Z.K io F ρ σ → σ[0]? = some (some (.ref f)) → H c' = some (LamX.CodeO c' q) →
      (∀ (E : XK) (Q : VK), RG Z.K (RepA Z.K) (j S) io F H Q E → tl E H Q) → RS Z.K (sSeq (sTry T (jobS i j) hs) mr ρ S) io F H D W → t D σ H := by
  obtain ⟨l, hl, hw⟩ := hds_ok ok hh
  obtain ⟨u, qu, hu⟩ := hr
  have pt := ps_try_mas (pos := pos) (tb := fun W' D σ H => σ[0]? = some (some (.ref f)) ∧ H c' = some (LamX.CodeO c' q) ∧ tl (WE W' σ) H (fun v H1 => D.nx (slotO i (some v) σ) H1)) hst hf tk (fun W' pn xe tk' po => hj pn xe _ (act W' pn xe tk')) hl
  refine ⟨_, pss_cons pt qu, fun j ρ S io F σ H D st en sl hc jb h => ?_⟩
  refine ⟨sl, hc, jb _ _ ?_⟩
  have h : RS Z.K ((match (jobS i j) ρ S with
    | .ok (.xc ρ1 c x) S1 => tryGo T hs ρ1 c x S1
    | r => r).thn mr) io F H D W := h
  unfold jobS at h
  cases r : j S with
  | bad => rw [r] at h; exact h
  | ok d S1 =>
    rw [r] at h
    have h : RS Z.K (mr (setO i d ρ) S1) io F H D W := h
    intro io' F' H' v n s' rv
    refine hu _ S1 io' F' _ H' D s' ?_ (RS.step n h)
    cases i with
    | none => exact en.nxt n
    | some i => exact (en.nxt n).set rv i
  | exc c x S1 =>
    rw [r] at h
    have h : RS Z.K ((tryGo T hs ρ c x S1).thn mr) io F H D W := h
    intro io' F' H' d n s' xr
    refine hw ρ c x S1 io' F' σ H' _ d W s' (en.nxt n) xr ?_
    have h := RS.step n h
    cases r2 : tryGo T hs ρ c x S1 with
    | bad => rw [r2] at h; exact h
    | ok g S2 =>
      rw [r2] at h
      cases g with
      | nx ρ1 => exact fun io1 F1 H1 σ1 n1 s1 en1 => hu ρ1 S2 io1 F1 σ1 H1 D s1 en1 (RS.step n1 h)
      | rt d => exact h
      | bk ρ1 => exact h
      | ct ρ1 => exact h
      | xc ρ1 c x => exact h
end Mir

namespace Mir
open PySem L2
theorem env_none {K : PySem.W.Frag} {io : Io} {F : Hp} : ∀ σ : L2.St, Mir.Env K io F (List.replicate σ.length none) σ
  | [] => rfl
  | o :: σ => ⟨o, σ, rfl, trivial, env_none σ⟩
theorem end_rs {K : PySem.W.Frag} {io : Io} {F H : Hp} {S : Sto} {r : RF} {Q : VK} {E : XK} (st : Sta K io F S H) (h : RG K (RepA K) (endF S.length r) io F H Q E) : RS K r io F H { nx := fun _ H' => Q .non H', rt := Q } (fun c d _ H' => E c d H') := by
  cases r with
  | bad => exact h.elim
  | ok fl S1 =>
    cases fl with
    | nx ρ => exact fun io1 F1 H1 σ1 nx s1 en1 => h (io1.take S.length) F1 H1 .non (nx.cut st.len) (s1.cut _) rfl
    | rt d => exact fun io1 F1 H1 v nx s1 r1 => ret_ok st.len nx s1 r1 h
    | bk ρ => exact h.elim
    | ct ρ => exact h.elim
    | xc ρ c x => exact fun io1 F1 H1 d σ1 nx s1 en1 xr => h (io1.take S.length) F1 H1 d (nx.cut st.len) (s1.cut _) xr
def tEe (K : PySem.W.Frag) (E : XK) (m : ME) : TE := fun σ H Q => ∃ ρ S io F, Sta K io F S H ∧ Mir.Env K io F ρ σ ∧ RG K (RepA K) (m ρ S) io F H Q E
theorem OE.pee {X : Cx} {E : XK} {e : Expr} {m : ME} (h : OE X (fun c d _ H' => E c d H') e m) : PE X e (tEe X.K E m) := ⟨fun pins s σ H Q I ⟨ρ, S, io, F, st, en, q⟩ => by
  obtain ⟨t, p, h⟩ := h
  exact p.run pins s σ H Q I (h ρ S io F σ H Q st en q)⟩
def mJob (n : Nat) (T : Sb) (i : Option Nat) (hs : List (Str × Option Nat × MX)) (mr : MS) (j : Sto → Res Vl) : Sto → Res Vl := fun S => endF S.length (sSeq (sTry T (jobS i j) hs) mr (List.replicate n none) S)
def eLam (q : Str) (jx : Nat) (mk : Str) (mG : (Sto → Res Vl) → Sto → Res Vl) (body : ME) : ME := fun ρ S => match S[jx]? with
  | some (.tbl x' q') => if x' = mk ∧ q' = q then mG (fun S' => body ρ S') S else .bad
  | _ => .bad
theorem oe_lam {X : Cx} {W : WX} {T : Sb} {x a q mk : Str} {g c : Addr} {k jx : Nat} {pg : Arguments} {sg : Scope} {fd : FuncData} {Ng : List Str} {jst : Stmt} {i : Option Nat} {h₀ : ExceptHandler} {hds : List ExceptHandler} {hs : List (Str × Option Nat × MX)} {rest : List Stmt} {mr : MS} {mb : ME}
    {params : Arguments} {body : Expr} {scope : Scope} {p p1 p2 p3 lpos pos : Pos} {bg : List Stmt} (hbg : bg = .Try [jst] (h₀ :: hds) [] [] p3 :: rest) (F : FunD X.K x x pg bg sg [] [] g fd) (hg : Gl X x) (hm : X.mg x = some (.ref g)) (hb : L2.Binds X.K fd [a] []) (Sg : FnScope Ng [a] sg) (hNg : Ng[0]? = some a) (hva : Vis sg a)
    (ok : SbOk X.K T) (tk : Takes X W) (hr : RoomG (k + 2) X.A)
    (hj : ∀ (cdv : Value) (s : Shared) (H : Hp) (E : XK) (pn : List (Addr × Obj)) (xe : Value → Shared → Prop) (t : TE), PE ((cxOf (L2.CX X.prog X.w) X.prog X.w X.K X.mg X.base Ng x sg g cdv X.A X.stack s H E).tr pn xe) (.Call (.Name a p1) [] [] p2) t → PSs ((cxOf (L2.CX X.prog X.w) X.prog X.w X.K X.mg X.base Ng x sg g cdv X.A X.stack s H E).tr pn xe) [jst] (fun D σ H => t σ H fun v H1 => D.nx (slotO i (some v) σ) H1))
    (hh : ∀ (cdv : Value) (s : Shared) (H : Hp) (E : XK), RoomG (k + 1) (X.A.deeper (PyProof.Rows.envOfC x sg s.heap.objs.size g cdv)) → HdM (cxOf (L2.CX X.prog X.w) X.prog X.w X.K X.mg X.base Ng x sg g cdv X.A X.stack s H E) (h₀ :: hds) hs)
    (hre : ∀ (cdv : Value) (s : Shared) (H : Hp) (E : XK), RoomG (k + 1) (X.A.deeper (PyProof.Rows.envOfC x sg s.heap.objs.size g cdv)) → OSs (cxOf (L2.CX X.prog X.w) X.prog X.w X.K X.mg X.base Ng x sg g cdv X.A X.stack s H E) (fun c d _ H' => E c d H') rest mr)
    (TB : LamX.TabB X.base X.mg c (lamT X.K mk)) (hcode : X.env.code = .ref c) (hq : X.env.qual ++ "<lambda>" = q) (L : LamX.LamS X.env.scope scope) (hdef : defaultsOf params X.env = ([], []))
    (hbind : ∀ (q : Str) (cl : List (Str × Addr)) (pm cv ctv : Value), bindArgs (PySem.W.kla_fn "<lambda>" q params body scope cl pm cv ctv) ⟨[], []⟩ = pure [])
    (hbody : ∀ (E : XK) (A : Around) (outer : List PySem.Env) (s : Shared) (H : Hp) (f c' : Addr), RoomG k (A.deeper (LamX.lamEnv X scope s.heap.objs.size f c')) → OE (LamX.lamCx X A outer s H E scope f c') (fun c d _ H' => E c d H') body mb)
    (hdb : (x == ("__debug__" : Str)) = false := by decide) (hd : (a == ("__debug__" : Str)) = false := by decide) (hcd : (a == ("__classdict__" : Str)) = false := by decide) :
    OE X W (.Call (.Name x p) [.Lambda params body scope lpos] [] pos) (eLam q jx mk (mJob Ng.length T i hs mr) mb) := by
  subst hbg
  refine ⟨fun σ H Q => ∃ ρ S io F, Sta X.K io F S H ∧ Mir.Env X.K io F ρ σ ∧ RG X.K (RepA X.K) (eLam q jx mk (mJob Ng.length T i hs mr) mb ρ S) io F H Q (WE W σ), ⟨fun pins s σ H Q I h => ?_⟩, fun ρ S io F σ H Q st en h => ⟨ρ, S, io, F, st, en, h⟩⟩
  obtain ⟨ρ, S, io, F0, st, en, h⟩ := h
  unfold eLam at h
  cases hk : S[jx]? with
  | none => rw [hk] at h; exact h.elim
  | some cc =>
  rw [hk] at h
  cases cc with
  | tbl x' q' =>
    dsimp only at h
    by_cases hPq : x' = mk ∧ q' = q
    · rw [if_pos hPq] at h
      obtain ⟨rfl, rfl⟩ := hPq
      subst hq
      obtain ⟨h1, h2, ps, hP, ht, ha⟩ := st.cel jx _ hk
      obtain ⟨oc, od, dV, kV, doc, pm, an, cdv, ct, osl, rfl, lk, hcg, _, _⟩ := F.ex
      refine wpAny_Call_Name_kw (ld_glob I hg hm ?_ hdb)
      refine PySem.W.callWith_K (h₀ := X.base) I.ok.mod.kin F.kp ?_ (by rfl) (by rfl)
      show wpAny _ _ (spliced ((false, eval (.Lambda params body scope lpos) X.env) :: backTo pos (starEach [] X.env))) _ _ s
      refine Calls.spliced_cons (lam_mk I TB hcode hP ht (fun p cv e => ?_) hdef (L.has I.ok) fun f c' pm' ctv H1 s' I1 ts hf hfn hfr hco => ?_)
      · obtain ⟨c0, e1, e2⟩ := ha p cv e
        exact ⟨c0, e1, st.sub _ _ e2⟩
      refine Calls.spliced_nil ⟨I1.kIn, ?_⟩
      obtain ⟨F1, n1, s1, hF1⟩ := st.tab hk hP ts
      have rc : codeAny (model X.prog X.w) X.A (.call (.ref g) ⟨[.ref f], []⟩) (CR (L2.CX X.prog X.w) X.stack X.prog X.w H1 s' Q (WE W σ)) s' := by
        refine LamX.run_ofS (k := k + 1) (N := Ng) (ps := [a]) (us := [.ref f]) (vs := [.ref f]) lk hcg Sg hr.r I1.env0 (hb s' [.ref f] I1.kIn rfl) (.cons rfl .nil) rfl fun _ => ?_
        have hrG := hr.deeper (PyProof.Rows.envOfC x sg s'.heap.objs.size g cdv)
        obtain ⟨t', pt', ht'⟩ := job_body (Z := cxOf (L2.CX X.prog X.w) X.prog X.w X.K X.mg X.base Ng x sg g cdv X.A X.stack s' H1 (WE W σ)) (f := f) (c' := c') (q := X.env.qual ++ "<lambda>") (tl := fun E H' Q' => tEe X.K E mb σ H' Q') (p1 := p1) (p2 := p2) (pos := p3) (i := i) ok rfl rfl (takes_of rfl rfl rfl rfl)
          (fun W' pn xe tk' => pe_actG (i := 0) (tb := fun E => tEe X.K E mb) I1 L hf hfn hfr (hbind _ _ _ _ _) tk' hrG (fun E A outer s H hr2 => (hbody E A outer s H f c' hr2).pee) hNg hva hd hcd)
          (fun pn xe t pe => hj cdv s' H1 (WE W σ) pn xe t pe) (hh cdv s' H1 (WE W σ) hrG) (hre cdv s' H1 (WE W σ) hrG)
        refine ⟨t', pt', ?_⟩
        have hls : (L2.start Ng [.ref f]).length = Ng.length := by
          unfold L2.start
          have := (List.getElem?_eq_some_iff.mp hNg).1
          simp
          omega
        have en0 := env_none (K := X.K) (io := io) (F := F1) (L2.start Ng [.ref f])
        rw [hls] at en0
        have h' : RG X.K (RepA X.K) (endF S.length (sSeq (sTry T (jobS i fun S' => mb ρ S') hs) mr (List.replicate Ng.length none) S)) io F1 H1 Q (WE W σ) := RG.step n1 h
        exact ht' (fun S' => mb ρ S') _ S io F1 _ H1 _ s1 en0 (by
          unfold L2.start
          rfl) hco (fun E Q hrg => ⟨ρ, S, io, F1, s1, en.nxt n1, hrg⟩) (end_rs s1 h')
      refine wpAny_call (codeAny_mono rc fun r s2 hq => ?_)
      cases r with
      | error e => exact tk _ _ (XE.of_call I1 (fun _ _ _ z => z) hq)
      | ok fl =>
        cases fl with
        | ret u => exact I1.after hq
        | next => exact False.elim hq
        | brk => exact False.elim hq
        | cont => exact False.elim hq
    · rw [if_neg hPq] at h
      exact h.elim
  | _ => exact h.elim
end Mir

namespace Mir
open PySem L2
def tabS (ts : List (Str × Str)) : Sto := ts.map fun p => Cell.tbl p.1 p.2
def tabAs (K : PySem.W.Frag) (ts : List (Str × Str)) : List Addr := ts.map fun p => lamT K p.1
def tabIo (K : PySem.W.Frag) (ts : List (Str × Str)) : Io := ts.map fun p => some (lamT K p.1)
def offT (K : PySem.W.Frag) (ts : List (Str × Str)) (H : Hp) : Hp := fun b => if b ∈ tabAs K ts then none else H b
theorem sta_tabs {K : PySem.W.Frag} {ts : List (Str × Str)} {H : Hp} (nd : (tabAs K ts).Nodup) (hH : ∀ p ∈ ts, H (lamT K p.1) = some (.tbl #[])) : Sta K (tabIo K ts) (offT K ts H) (tabS ts) H := by
  have at_ : ∀ (j : Nat) (a : Addr), (tabIo K ts)[j]? = some (some a) → (tabAs K ts)[j]? = some a := fun j a h => by
    unfold tabIo at h
    unfold tabAs
    rw [List.getElem?_map] at h ⊢
    cases q : ts[j]? with
    | none => rw [q] at h; cases h
    | some p =>
      rw [q] at h
      have h : some (some (lamT K p.1)) = some (some a) := h
      cases h
      rfl
  refine ⟨by unfold tabIo tabS; rw [List.length_map, List.length_map], fun j k a h1 h2 => ?_, fun b u e => ?_, fun k a h z => ?_, fun k c h => ?_⟩
  · have h1 := at_ j a h1
    have h2 := at_ k a h2
    have hj := (List.getElem?_eq_some_iff.mp h1)
    have hk := (List.getElem?_eq_some_iff.mp h2)
    exact (List.getElem_inj nd (h₀ := hj.1) (h₁ := hk.1)).mp (hj.2.trans hk.2.symm)
  · unfold offT at e
    split at e
    · cases e
    · exact e
  · have h1 := List.mem_of_getElem? (at_ k a h)
    obtain ⟨p, hp, e⟩ := List.mem_map.mp h1
    have e : lamT K p.1 = a := e
    rw [← e, hH p hp] at z
    cases z
  · unfold tabS at h
    rw [List.getElem?_map] at h
    cases q : ts[k]? with
    | none => rw [q] at h; cases h
    | some p =>
      rw [q] at h
      have h : some (Cell.tbl p.1 p.2) = some c := h
      cases h
      have hp := List.mem_of_getElem? q
      refine ⟨?_, if_pos (List.mem_map.mpr ⟨p, hp, rfl⟩), #[], hH p hp, trivial, fun pos cv e => ?_⟩
      · unfold tabIo
        rw [List.getElem?_map, q]
        rfl
      · first
          | cases e
          | exact absurd e (by simp [codeAmong])
end Mir

namespace Mir
open PySem L2
abbrev noRow : Obj := { cls := .none, data := .fields #[] }
theorem law_callGT {Pr : Program} {w : World} {K : PySem.W.Frag} {mg mb : Str → Option Value} {k : Nat} {fa a : Addr} {fd : FuncData} {x : Str} {m : MF} {s₁ : Shared} {vs : List Value} {ns : List Int} {S' : Sto} {ts : List (Str × Str)}
    (KX : K.In s₁.heap) (nsG : s₁.heap.Ns mainGlobals mg) (nsB : s₁.heap.Ns builtinsNs mb) (bbs : ∀ x : Str, x ≠ "__name__" → mb x = bootBuiltins x) (lim : s₁.heap.NoLimit) (gn : s₁.gens = #[])
    (tT : ∀ p ∈ ts, s₁.heap.get? (lamT K p.1) = some noRow) (tN : ∀ p ∈ ts, K.lookup (lamT K p.1) = none) (tC : ∀ p ∈ ts, PySem.W.CodeHd s₁.heap (lamC K p.1) (lamT K p.1)) (nd : (tabAs K ts).Nodup)
    (bmo : ∃ (bm : Addr) (ob : Obj), mg "__builtins__" = some (.ref bm) ∧ bm ≠ builtinsNs ∧ s₁.heap.get? bm = some ob ∧ ob.cls = .type "module" ∧ ob.dict = some builtinsNs ∧ ob.data = .plain)
    (la : s₁.heap.get? a = some { cls := .type "list", data := .seq vs.toArray }) (hi : PyProof.Rows.IntsAre vs ns) (ll : ns.length ≤ sizeLine) (hr : RoomG k callerA)
    (Fn : ∀ base : Heap, K.In base → base.Ns mainGlobals mg → (∀ p ∈ ts, LamX.TabB base mg (lamC K p.1) (lamT K p.1)) → FnG Pr w K mg base k fa fd [x] (spM K m)) (bnd : ∀ (s : Shared) (u : Value), BindsTo s fd ⟨[u], []⟩ [(x, u)])
    (hm : m [.p (.scr (ns.map P.int))] (tabS ts) = .ok (.p (.bl true)) S') :
    codeAny (model Pr w) callerA (.call (.ref fa) ⟨[.ref a], []⟩) (fun r s' => r = .ok (.ret (.bool true)) ∧ OldK s₁.heap s'.heap ∧ s'.os = s₁.os ∧ PyProof.Rows.AllBare s'.gens) s₁ := by
  have rv := vals_ints hi
  have lnV := hi.length
  have tabAt : ∀ b : Addr, b ∈ tabAs K ts → s₁.heap.get? b = some noRow := fun b z => by
    obtain ⟨p, hp, ep⟩ := List.mem_map.mp z
    have ep : lamT K p.1 = b := ep
    rw [← ep]; exact tT p hp
  have tabIn : ∀ p ∈ ts, lamT K p.1 ∈ tabAs K ts := fun p hp => List.mem_map.mpr ⟨p, hp, rfl⟩
  have aOff : a ∉ tabAs K ts := fun z => by
    have q := tabAt a z
    rw [la] at q
    have q := congrArg Obj.data (Option.some.inj q)
    cases (show Data.seq vs.toArray _ = Data.fields #[] from q)
  have go : ∀ H : Hp, (∀ p ∈ ts, H (lamT K p.1) = some (.tbl #[])) → (∀ b, H b = none ∨ b ∈ tabAs K ts ∨ ∃ o xs, H b = some (.frz o (.lst xs))) → SqL K (offT K ts H) a (ns.map V.int) → HOk Pr w H s₁.heap → (∀ b, H b ≠ none → b = a ∨ b ∈ tabAs K ts) → (H a ≠ none → K.lookup a = none) →
      codeAny (model Pr w) callerA (.call (.ref fa) ⟨[.ref a], []⟩) (fun r s' => r = .ok (.ret (.bool true)) ∧ OldK s₁.heap s'.heap ∧ s'.os = s₁.os ∧ PyProof.Rows.AllBare s'.gens) s₁ := by
    intro H hH hO hS hok hA hK
    have free : ∀ {b : Addr} {o : Obj}, s₁.heap.get? b = some o → (∀ us n, o.data ≠ .seq us n) → o.data ≠ .fields #[] → H b = none := fun {b o} e n1 n2 => by
      cases q : H b with
      | none => rfl
      | some u =>
        rcases hA b (by rw [q]; simp) with z | z
        · rw [z, la] at e; cases e; exact absurd rfl (n1 _ _)
        · rw [tabAt b z] at e; cases e; exact absurd rfl n2
    have dictB : ∀ {b : Addr} {mm : Str → Option Value}, s₁.heap.Ns b mm → (hidT s₁.heap H).Ns b mm := fun {b mm} ⟨o, es, ep, e, d, r⟩ => ⟨o, es, ep, hidT_get e (free e (fun us n z => by rw [d] at z; cases z) fun z => by rw [d] at z; cases z), d, r⟩
    have inB : K.In (hidT s₁.heap H) := fun b o e => hidT_get (KX b o e) (by
      cases q : H b with
      | none => rfl
      | some u =>
        rcases hA b (by rw [q]; simp) with z | z
        · subst z
          rw [hK (by rw [q]; simp)] at e; cases e
        · obtain ⟨p, hp, ep⟩ := List.mem_map.mp z
          have ep : lamT K p.1 = b := ep
          rw [← ep, tN p hp] at e; cases e)
    have tabB : ∀ p ∈ ts, LamX.TabB (hidT s₁.heap H) mg (lamC K p.1) (lamT K p.1) := fun p hp => by
      have tp := tT p hp
      refine ⟨?_, ?_, fun z => ?_⟩
      · obtain ⟨o, us, fl, tf, gs, tg, iF, tx, tt, e1, q1, q2, q3, q4⟩ := tC p hp
        exact ⟨o, us, fl, tf, gs, tg, iF, tx, tt, hidT_get e1 (free e1 (fun vs n z => by rw [q2] at z; cases z) fun z => by rw [q2] at z; cases z; simp at q3), q1, q2, q3, q4⟩
      · obtain ⟨bm, ob, b1, b2, b3, b4, b5, b6⟩ := bmo
        refine ⟨bm, ob, b1, b2, fun q => ?_, fun q => ?_, hidT_get b3 (free b3 (fun vs n z => by rw [b6] at z; cases z) fun z => by rw [b6] at z; cases z), b4, b5, b6⟩
        · obtain ⟨o, es, ep, e, hd, _⟩ := nsG
          rw [q, e] at b3
          cases b3
          rw [hd] at b6; cases b6
        · rw [q, tp] at b3
          cases b3
          cases b6
      · obtain ⟨o, es, ep, e, hd, _⟩ := nsG
        rw [z, tp] at e
        cases e
        cases hd
    have e0 : Env0 Pr w K mg (hidT s₁.heap H) callerA [] s₁ H := ⟨rfl, ⟨inB, dictB nsG, ⟨mb, dictB nsB, bbs⟩, let ⟨mc, h1, h2⟩ := lim; ⟨mc, dictB h1, h2⟩⟩, fun b o e => of_hidT e, Nat.le_of_eq (hidT_size _ _), trivial, fun b hb => absurd (show b ∈ ([] : List Addr) from hb) (by simp), hok, .of_eq gn⟩
    have sp : spM K m [.ref a] H (fun v _ => v = .bl true) (fun _ _ _ => False) := by
      refine ⟨tabIo K ts, offT K ts H, tabS ts, [.p (.scr (ns.map P.int))], sta_tabs nd hH, ⟨_, [], rfl, ⟨a, ns.map V.int, rfl, hS, repl_ints ns⟩, rfl⟩, ?_⟩
      rw [hm]
      exact fun io' F' H' v _ _ r => r
    refine codeAny_mono ((Fn _ inB (dictB nsG) tabB).run callerA [] s₁ H ⟨[.ref a], []⟩ [.ref a] [.ref a] _ _ hr e0 (bnd s₁ (.ref a)) (.cons rfl .nil) sp) fun r s' h => ?_
    match r, h with
    | .error e, ⟨_, _, _, _, _, _, _, _, _, _, _, _, z⟩ => exact z.elim
    | .ok .next, h => exact h.elim
    | .ok .brk, h => exact h.elim
    | .ok .cont, h => exact h.elim
    | .ok (.ret u), ⟨v, H', os, bare, un, hok', r', q⟩ =>
      have q : v = .bl true := q
      subst q
      obtain rfl : u = Value.bool true := r'
      have same : ∀ b o, b ∉ tabAs K ts → s₁.heap.get? b = some o → s'.heap.get? b = some o := fun b o nb e => by
        cases q : H b with
        | none => exact un.keep b o e q (by intro z; exact absurd (show b ∈ ([] : List Addr) from z) (by simp)) (by simp)
        | some u =>
          rcases hO b with z | z | ⟨ob, xs, z⟩
          · rw [q] at z; cases z
          · exact absurd z nb
          · obtain ⟨e1, _⟩ := hok b _ z
            obtain ⟨e2, _⟩ := hok' b _ (un.frzs b ob _ z)
            rw [e] at e1; cases e1
            exact e2
      have more : ∀ b, b ∈ tabAs K ts → ∃ ms : Array Value, s'.heap.get? b = some { cls := .none, data := .fields ms } := fun b hb => by
        obtain ⟨p, hp, ep⟩ := List.mem_map.mp hb
        have ep : lamT K p.1 = b := ep
        obtain ⟨ms, z⟩ := un.tbls (lamT K p.1) #[] (hH p hp)
        rw [← ep]
        exact ⟨_, hok' _ _ z⟩
      refine ⟨rfl, ⟨fun b o e => ?_, fun b o e => ?_⟩, os, bare⟩
      · by_cases hb : b ∈ tabAs K ts
        · obtain ⟨ms, z⟩ := more b hb
          have e2 := tabAt b hb
          rw [e] at e2
          cases e2
          refine .inr (.inl ⟨?_, rfl, #[], ms, rfl, by rw [Array.empty_append]; exact z⟩)
          obtain ⟨p, hp, ep⟩ := List.mem_map.mp hb
          have ep : lamT K p.1 = b := ep
          rw [← ep]
          exact ((tC p hp).tab (tT p hp)).isCodeTable
        · exact .inl (same b o hb e)
      · by_cases hb : b ∈ tabAs K ts
        · obtain ⟨ms, z⟩ := more b hb
          exact ⟨_, z⟩
        · exact ⟨o, same b o hb e⟩
  cases hk : K.lookup a with
  | some o =>
    have e := KX a o hk
    rw [la] at e
    cases e
    refine go (fun b => if b ∈ tabAs K ts then some (.tbl #[]) else none) (fun p hp => if_pos (tabIn p hp)) (fun b => ?_) (.inr ⟨_, vs.toArray, _, hk, rfl, rfl, rfl, by rw [List.size_toArray, lnV]; exact ll, by simpa using rv⟩) (fun b u z => ?_) (fun b z => ?_) (fun z => absurd (if_neg aOff) z)
    · by_cases hb : b ∈ tabAs K ts
      · exact .inr (.inl hb)
      · exact .inl (if_neg hb)
    · by_cases hb : b ∈ tabAs K ts
      · cases (if_pos hb).symm.trans z
        exact tabAt b hb
      · cases (if_neg hb).symm.trans z
    · by_cases hb : b ∈ tabAs K ts
      · exact .inr hb
      · exact absurd (if_neg hb) z
  | none =>
    obtain ⟨H0, eH⟩ : ∃ H0 : Hp, H0 = fun b => if b = a then some (HO.frz { cls := .type "list", data := .seq vs.toArray } (.lst (ns.map V.int))) else if b ∈ tabAs K ts then some (.tbl #[]) else none := ⟨_, rfl⟩
    have atA : H0 a = some (HO.frz { cls := .type "list", data := .seq vs.toArray } (.lst (ns.map V.int))) := by rw [eH]; exact if_pos rfl
    have atT : ∀ b, b ∈ tabAs K ts → H0 b = some (.tbl #[]) := fun b hb => by
      rw [eH]
      exact (if_neg (fun z => aOff (by rw [← z]; exact hb))).trans (if_pos hb)
    have atO : ∀ b, b ≠ a → b ∉ tabAs K ts → H0 b = none := fun b h1 h2 => by rw [eH]; exact (if_neg h1).trans (if_neg h2)
    refine go H0 (fun p hp => atT _ (tabIn p hp)) (fun b => ?_) (.inl (.inr ⟨{ cls := .type "list", data := .seq vs.toArray }, ?_⟩)) (fun b u z => ?_) (fun b z => ?_) fun _ => hk
    · by_cases hb : b = a
      · subst hb; exact .inr (.inr ⟨_, _, atA⟩)
      · by_cases hb2 : b ∈ tabAs K ts
        · exact .inr (.inl hb2)
        · exact .inl (atO b hb hb2)
    · unfold offT
      rw [if_neg aOff]
      exact atA
    · by_cases hb : b = a
      · subst hb
        rw [atA] at z
        cases z
        exact ⟨la, by rw [List.length_map]; exact ll, vs, _, rv, la⟩
      · by_cases hb2 : b ∈ tabAs K ts
        · rw [atT b hb2] at z
          cases z
          exact tabAt b hb2
        · rw [atO b hb hb2] at z; cases z
    · by_cases hb : b = a
      · exact .inl hb
      · by_cases hb2 : b ∈ tabAs K ts
        · exact .inr hb2
        · exact absurd (atO b hb hb2) z
abbrev AlML : Type := AlMT × Bool
def lamsB (g : Addr → Option Obj) (ts : List (Str × Str)) (K : PySem.W.Frag) : Bool := ts.all (fun p => PySem.W.codeHdIn K (lamC K p.1) (lamT K p.1) && (match g (lamT K p.1) with
  | some o => He.emptyTab o
  | none => false)) && decide ((tabAs K ts).Nodup)
structure SaysML (ck : PySem.W.Frag → Bool) (fn : List DefM) (tb : List He.Tab) (ts : List (Str × Str)) (w : World) (h : Heap) (K : PySem.W.Frag) : Prop where
  t : SaysMT ck fn tb w K
  nd : (tabAs K ts).Nodup
  hd : ∀ p ∈ ts, PySem.W.codeHdIn K (lamC K p.1) (lamT K p.1) = true
  out : ∀ p ∈ ts, K.lookup (lamT K p.1) = none
  emp : ∀ p ∈ ts, h.get? (lamT K p.1) = some noRow
def obsMLG (n : Nat) (ck : PySem.W.Frag → Bool) (fn : List DefM) (tb : List He.Tab) (ts : List (Str × Str)) (g : Addr → Option Obj) : AlML := (obsMT ck fn tb (He.frT g (asX g n)), lamsB g ts (He.frT g (asX g n)))
def valML (fn : List DefM) (tb : List He.Tab) (w : World) : AlML := (valMT fn tb w, true)
theorem saysML_of {n : Nat} {ck : PySem.W.Frag → Bool} {fn : List DefM} {tb : List He.Tab} {ts : List (Str × Str)} {w : World} {h : Heap} (e : obsMLG n ck fn tb ts h.get? = valML fn tb w) : SaysML ck fn tb ts w h (He.frT h.get? (asX h.get? n)) := by
  have e1 : obsMT ck fn tb (He.frT h.get? (asX h.get? n)) = valMT fn tb w := congrArg (fun z : AlML => z.1) e
  have e2 : lamsB h.get? ts (He.frT h.get? (asX h.get? n)) = true := congrArg (fun z : AlML => z.2) e
  obtain ⟨h1, h2⟩ := He.ba e2
  have key : ∀ p ∈ ts, PySem.W.codeHdIn (He.frT h.get? (asX h.get? n)) (lamC (He.frT h.get? (asX h.get? n)) p.1) (lamT (He.frT h.get? (asX h.get? n)) p.1) = true ∧ ∃ o, h.get? (lamT (He.frT h.get? (asX h.get? n)) p.1) = some o ∧ He.emptyTab o = true := fun p hp => by
    obtain ⟨h3, h4⟩ := He.ba (List.all_eq_true.mp h1 p hp)
    refine ⟨h3, ?_⟩
    cases q : h.get? (lamT (He.frT h.get? (asX h.get? n)) p.1) with
    | none => rw [q] at h4; cases h4
    | some o => rw [q] at h4; exact ⟨o, rfl, h4⟩
  exact ⟨e1, of_decide_eq_true h2, fun p hp => (key p hp).1, fun p hp => let ⟨_, o, q, z⟩ := key p hp; He.frT_none q z, fun p hp => let ⟨_, o, q, z⟩ := key p hp; by rw [q, He.emptyTab_eq z]⟩
def hookML (n : Nat) (ck : PySem.W.Frag → Bool) (fn : List DefM) (tb : List He.Tab) (ts : List (Str × Str)) : PySem.W.Hook where
  α := AlML
  obs := fun s => obsMLG n ck fn tb ts s.heap.get?
  val := fun w => valML fn tb w
  says := fun w h => ∃ K : PySem.W.Frag, K.In h ∧ SaysML ck fn tb ts w h K
  of := fun _ _ e => ⟨_, He.frT_in, saysML_of e⟩
  keeps := fun _ _ _ ⟨K, hK, c⟩ k => ⟨K, PySem.W.Frag.In.keeps hK k, ⟨c.t, c.nd, c.hd, c.out, fun p hp => k _ _ (c.emp p hp)⟩⟩
theorem obsMLG_eq {n : Nat} {ck : PySem.W.Frag → Bool} {fn : List DefM} {tb : List He.Tab} {ts : List (Str × Str)} {g : Addr → Option Obj} {s : Shared} (h : ∀ a, g a = s.heap.get? a) : obsMLG n ck fn tb ts g = (hookML n ck fn tb ts).obs s := by
  have e : g = s.heap.get? := funext h
  rw [e] <;> rfl
theorem walkGT {l : PySem.W.OpenLaw} {n k : Nat} {q : Program} {loose : List Str} {XP : (Str → Option Value) → Heap → Prop} {YP : World → Heap → Prop} {d : DefRec} {x : Str} {m : MF} {ts : List (Str × Str)}
    (hn : l.most = some n) (hn2 : n ≤ sizeLine) (hdf : d.params.defaults = []) (hr : RoomG k callerA)
    (F : ∀ (w : World) (mg : Str → Option Value) (fa : Addr) (h : Heap), YP w h → h.Ns mainGlobals mg → mg d.name = some (.ref fa) →
      ∃ (K : PySem.W.Frag) (fd : FuncData), K.In h ∧ ((tabAs K ts).Nodup ∧ (∀ p ∈ ts, PySem.W.codeHdIn K (lamC K p.1) (lamT K p.1) = true) ∧ (∀ p ∈ ts, K.lookup (lamT K p.1) = none) ∧ (∀ p ∈ ts, h.get? (lamT K p.1) = some noRow)) ∧
        (∀ (s : Shared) (u : Value), BindsTo s fd ⟨[u], []⟩ [(x, u)]) ∧ ∀ base : Heap, K.In base → base.Ns mainGlobals mg → (∀ p ∈ ts, LamX.TabB base mg (lamC K p.1) (lamT K p.1)) → FnG l.prog w K mg base k fa fd [x] (spM K m))
    (hm : ∀ ns : List Int, ns.length ≤ n → ∃ S', m [.p (.scr (ns.map P.int))] (tabS ts) = .ok (.p (.bl true)) S') :
    PySem.W.WalkO q loose XP YP l.row.toRowW d [] (fun f vs => PySem.call f vs) := by
  refine Att.attach_call hn hdf fun w s₀ s₁ mg mb fa o pm cd doc a vs ns G Y ho hd hcd hmg hobj hints hlen hg => ?_
  obtain ⟨K, fd, KX, ⟨nd, tH, tN, tE⟩, hb, hF⟩ := F w mg fa _ Y G.T.g hmg
  obtain ⟨S', e⟩ := hm ns hlen
  exact law_callGT KX G.T.g G.T.b G.T.builtins G.T.nolimit hg tE tN (fun p hp => PySem.W.codeHd_of_K KX (tH p hp)) nd G.T.bmain hobj hints (Nat.le_trans hlen hn2) hr hF hb e
end Mir

namespace Mir
open PySem L2
structure ExK (K : PySem.W.Frag) (c : Str) : Prop where
  oex : OexG K (He.ga K c)
  xf : XfC K (He.ga K c)
  ex : ExcC K (He.ga K c)
def oexB (K : PySem.W.Frag) (C : Addr) : Bool := ((PySem.W.excInitIn K C bmV "ValueError.__new__" && PySem.W.excOver K C bmV) || ((PySem.W.excInitIn K C bmL "LookupError.__new__" && PySem.W.excOver K C bmL) || (PySem.W.excInitIn K C bmA "ArithmeticError.__new__" && PySem.W.excOver K C bmA))) &&
  ((match PySem.W.clsIn K C with
    | some cd => cd.hasDict
    | none => false) && (He.eqO (PySem.W.findIn K (.ref C) "__setattr__") (some (some (.builtin "object.__setattr__"))) && (decide (PySem.W.subIn K (.ref C) (.type "BaseException") = some true) && (decide (PySem.W.typeIn K (.ref C) = some (.type "type")) && PySem.W.keepIn K (.ref C)))))
theorem oexB_ok {K : PySem.W.Frag} {C : Addr} (h : oexB K C = true) : OexG K C := by
  unfold oexB at h
  obtain ⟨h1, h⟩ := He.ba h
  obtain ⟨h2, h⟩ := He.ba h
  obtain ⟨h3, h⟩ := He.ba h
  obtain ⟨h4, h⟩ := He.ba h
  obtain ⟨h5, h6⟩ := He.ba h
  refine ⟨?_, ?_, He.eqO_ok h3, of_decide_eq_true h4, of_decide_eq_true h5, h6⟩
  · rcases Bool.or_eq_true_iff.mp h1 with q | q
    · obtain ⟨a, b⟩ := He.ba q; exact ⟨_, _, exb_V, a, b⟩
    · rcases Bool.or_eq_true_iff.mp q with q | q
      · obtain ⟨a, b⟩ := He.ba q; exact ⟨_, _, exb_L, a, b⟩
      · obtain ⟨a, b⟩ := He.ba q; exact ⟨_, _, exb_A, a, b⟩
  · cases e : PySem.W.clsIn K C with
    | none => rw [e] at h2; cases h2
    | some cd => rw [e] at h2; exact ⟨cd, rfl, h2⟩
def excB (K : PySem.W.Frag) (D : Addr) : Bool := xfB K D && (He.eqO (PySem.W.findIn K (.ref D) "__class__") (some (some (.builtin "object.__class__"))) && (He.eqO (PySem.W.specialIn K (.builtin "object.__class__") "__get__") (some (some (.builtin "getset_descriptor.__get__"))) &&
  (decide (PySem.W.takesIn K (.builtin "object.__class__") = some true) && decide (PySem.W.mroIn K D (.type "object") = some true))))
theorem excB_ok {K : PySem.W.Frag} {D : Addr} (h : excB K D = true) : ExcC K D := by
  unfold excB at h
  obtain ⟨h1, h⟩ := He.ba h
  obtain ⟨h2, h⟩ := He.ba h
  obtain ⟨h3, h⟩ := He.ba h
  obtain ⟨h4, h5⟩ := He.ba h
  have X := xfB_ok h1
  exact ⟨X.ga, X.gg, X.exC, X.hdC, He.eqO_ok h2, He.eqO_ok h3, of_decide_eq_true h4, of_decide_eq_true h5⟩
def exkB (K : PySem.W.Frag) (c : Str) : Bool := oexB K (He.ga K c) && (xfB K (He.ga K c) && excB K (He.ga K c))
theorem exkB_ok {K : PySem.W.Frag} {c : Str} (h : exkB K c = true) : ExK K c := by
  obtain ⟨h1, h⟩ := He.ba h
  obtain ⟨h2, h3⟩ := He.ba h
  exact ⟨oexB_ok h1, xfB_ok h2, excB_ok h3⟩
structure ExI (K : PySem.W.Frag) (c : Str) : Prop where
  ini : PySem.W.findIn K (.ref (He.ga K c)) "__init__" = some (some (.ref (He.ma K (He.ga K c) "__init__")))
  ty : PySem.W.typeIn K (.ref (He.ma K (He.ga K c) "__init__")) = some (.type "function")
def exiB (K : PySem.W.Frag) (c : Str) : Bool := He.eqO (PySem.W.findIn K (.ref (He.ga K c)) "__init__") (some (some (.ref (He.ma K (He.ga K c) "__init__")))) && decide (PySem.W.typeIn K (.ref (He.ma K (He.ga K c) "__init__")) = some (.type "function"))
theorem exiB_ok {K : PySem.W.Frag} {c : Str} (h : exiB K c = true) : ExI K c := by
  obtain ⟨h1, h2⟩ := He.ba h
  exact ⟨He.eqO_ok h1, of_decide_eq_true h2⟩
abbrev ExN (K : PySem.W.Frag) (c f : Str) : Prop := PySem.W.findIn K (.ref (He.ga K c)) f = some none
def exnB (K : PySem.W.Frag) (c f : Str) : Bool := He.eqO (PySem.W.findIn K (.ref (He.ga K c)) f) (some none)
theorem exnB_ok {K : PySem.W.Frag} {c f : Str} (h : exnB K c f = true) : ExN K c f := He.eqO_ok h
def sbB (K : PySem.W.Frag) (T : Sb) : Bool := T.all fun q => decide (PySem.W.exmOne K (.ref (He.ga K q.1)) (.ref (He.ga K q.2.1)) = some q.2.2)
theorem sbB_ok {K : PySem.W.Frag} {T : Sb} (h : sbB K T = true) : SbOk K T := fun q hq => of_decide_eq_true (List.all_eq_true.mp h q hq)
theorem lamC_of {K : PySem.W.Frag} {x y qual : Str} {params : Arguments} {body : List Stmt} {scope : Scope} {dvs : List V} {kws : List (Str × V)} {fd : FuncData} {cdv : Value} (F : FunD K y qual params body scope dvs kws (He.ga K x) fd) (h : fd.code = cdv) : cdv = .ref (lamC K x) := by
  obtain ⟨oc, od, dV, kV, doc, pm, an, cv, ct, osl, rfl, lk, hcd, _, _⟩ := F.ex
  subst h
  obtain ⟨c, rfl⟩ := He.codeIn_ref hcd
  unfold lamC
  rw [lk]
structure GJ (P : Program) (w : World) (K : PySem.W.Frag) (mg : Str → Option Value) (base : Heap) (x : Str) (k : Nat) (T : Sb) (n : Nat) (i : Option Nat) (hs : List (Str × Option Nat × MX)) (mr : MS) : Prop where
  ex : ∃ (a : Str) (pg : Arguments) (sg : Scope) (fd : FuncData) (Ng : List Str) (jst : Stmt) (h₀ : ExceptHandler) (hds : List ExceptHandler) (rest : List Stmt) (p1 p2 p3 : Pos),
    FunD K x x pg (.Try [jst] (h₀ :: hds) [] [] p3 :: rest) sg [] [] (He.ga K x) fd ∧ mg x = some (.ref (He.ga K x)) ∧ L2.Binds K fd [a] [] ∧ FnScope Ng [a] sg ∧ Ng.length = n ∧ Ng[0]? = some a ∧ Vis sg a ∧ (a == ("__debug__" : Str)) = false ∧ (a == ("__classdict__" : Str)) = false ∧ SbOk K T ∧
    (∀ (A : Around) (outer : List PySem.Env) (cdv : Value) (s : Shared) (H : Hp) (E : XK) (pn : List (Addr × Obj)) (xe : Value → Shared → Prop) (t : TE), PE ((cxOf (L2.CX P w) P w K mg base Ng x sg (He.ga K x) cdv A outer s H E).tr pn xe) (.Call (.Name a p1) [] [] p2) t →
      PSs ((cxOf (L2.CX P w) P w K mg base Ng x sg (He.ga K x) cdv A outer s H E).tr pn xe) [jst] (fun D σ H => t σ H fun v H1 => D.nx (slotO i (some v) σ) H1)) ∧
    (∀ (A : Around) (outer : List PySem.Env) (cdv : Value) (s : Shared) (H : Hp) (E : XK), RoomG (k + 1) (A.deeper (PyProof.Rows.envOfC x sg s.heap.objs.size (He.ga K x) cdv)) → HdM (cxOf (L2.CX P w) P w K mg base Ng x sg (He.ga K x) cdv A outer s H E) (h₀ :: hds) hs) ∧
    ∀ (A : Around) (outer : List PySem.Env) (cdv : Value) (s : Shared) (H : Hp) (E : XK), RoomG (k + 1) (A.deeper (PyProof.Rows.envOfC x sg s.heap.objs.size (He.ga K x) cdv)) → OSs (cxOf (L2.CX P w) P w K mg base Ng x sg (He.ga K x) cdv A outer s H E) (fun c d _ H' => E c d H') rest mr
theorem oe_lamJ {X : Cx} {W : WX} {T : Sb} {x q mk : Str} {c : Addr} {k jx n : Nat} {i : Option Nat} {hs : List (Str × Option Nat × MX)} {mr : MS} {mb : ME} {params : Arguments} {body : Expr} {scope : Scope} {p lpos pos : Pos}
    (G : GJ X.prog X.w X.K X.mg X.base x k T n i hs mr) (hg : Gl X x) (tk : Takes X W) (hr : RoomG (k + 2) X.A)
    (TB : LamX.TabB X.base X.mg c (lamT X.K mk)) (hcode : X.env.code = .ref c) (hq : X.env.qual ++ "<lambda>" = q) (L : LamX.LamS X.env.scope scope) (hdef : defaultsOf params X.env = ([], []))
    (hbind : ∀ (q : Str) (cl : List (Str × Addr)) (pm cv ctv : Value), bindArgs (PySem.W.kla_fn "<lambda>" q params body scope cl pm cv ctv) ⟨[], []⟩ = pure [])
    (hbody : ∀ (E : XK) (A : Around) (outer : List PySem.Env) (s : Shared) (H : Hp) (f c' : Addr), RoomG k (A.deeper (LamX.lamEnv X scope s.heap.objs.size f c')) → OE (LamX.lamCx X A outer s H E scope f c') (fun c d _ H' => E c d H') body mb)
    (hdb : (x == ("__debug__" : Str)) = false := by decide) :
    OE X W (.Call (.Name x p) [.Lambda params body scope lpos] [] pos) (eLam q jx mk (mJob n T i hs mr) mb) := by
  obtain ⟨a, pg, sg, fd, Ng, jst, h₀, hds, rest, p1, p2, p3, F, hm, hb, Sg, hn, hNg, hva, hd, hcd, ok, hj, hh, hre⟩ := G.ex
  subst hn
  exact oe_lam rfl F hg hm hb Sg hNg hva ok tk hr (fun cdv s H E pn xe t => hj X.A X.stack cdv s H E pn xe t) (fun cdv s H E => hh X.A X.stack cdv s H E) (fun cdv s H E => hre X.A X.stack cdv s H E) TB hcode hq L hdef hbind hbody hdb hd hcd
theorem jst_set {X : Cx} {i : Nat} {y : Str} {e : Expr} {t : TE} {py spos : Pos} (hN : X.N.Nodup) (pe : PE X e t) (hi : X.N[i]? = some y) (hx : Loc X.env.scope y) (hs : swapsWith e (some (.Name y py)) spos.line X.env = pure false) (hf : X.fn y = true ∨ X.env.scope.names.lookup y = some .local) :
    PSs X [.Assign [.Name y py] e spos] (fun D σ H => t σ H fun v H1 => D.nx (slotO (some i) (some v) σ) H1) := pss_one (ps_set hN hi hx pe hs hf)
end Mir

namespace Mir
open PySem PySem.Spec L2
section
variable {P : Program} {w : World} {K : PySem.W.Frag} {mg : Str → Option Value} {base : Heap} {x qual : Str} {params : Arguments} {body : List Stmt} {scope : Scope} {dvs : List V} {kws : List (Str × V)} {f : Addr} {fd : FuncData} {N ps : List Str} {k nl : Nat} {m : MS}
end
structure Sub (X : Cx) (A : Around) : Prop where
  fr : A.frames = X.A.frames
  dp : A.depth + 3 * 1 + 5 < recursionLimit
  un : A.units + 16 * 1 + 200 < cLine
section
variable {X : Cx} {A : Around} {c : Str} {m : MF} {pins : List (Addr × Obj)} {σ : St} {H : Hp} {s : Shared} {b dx : Addr} {fs : List (Str × V)} {Q : Str → Shared → Prop} {Q' : Str → Hp → Prop} {E : Value → Shared → Prop} {n : Nat}
end
section
variable {X : Cx} {A : Around} {pins : List (Addr × Obj)} {σ : St} {H : Hp} {s : Shared} {a : Addr} {v : V} {Q : Value → Shared → Prop} {Q' : Str → Hp → Prop} {E : Value → Shared → Prop}
end
section
variable {X : Cx} {tb : List (Str × MF)}
end
structure RoomR (A : Around) : Prop where
  dp : A.depth + 3 * 1 + 8 < recursionLimit
  un : A.units + 16 * 1 + 211 < cLine
  gd : A.guards = some []
theorem RoomG.rr {k : Nat} {A : Around} (h : RoomG k A) (hk : 2 ≤ k) : RoomR A := ⟨by have := h.r.dp; omega, by have := h.r.un; omega, h.gd⟩
section
variable {X : Cx} {tb : List (Str × MF)}
end
section
variable {X : Cx} {W : WX} {tb : List (Str × MF)} {a : Expr} {ma : ME} {pos p : Pos} {k i : Nat} {mx : Str → XD → ME}
end
end Mir

namespace Mir
open PySem L2
section
variable {K : PySem.W.Frag}
end
section
variable {X : Cx} {W : WX} {a o : Expr} {ma mo : ME} {pos p apos : Pos}
end
end Mir

namespace Mir
open PySem L2
section
variable {X : Cx} {W : WX} {a b : Expr} {ma mb : ME} {pos : Pos}
end
end Mir

namespace Mir
open PySem L2
section
variable {X : Cx} {W : WX} {a b : Expr} {ma mb : ME} {x x2 : Str} {pos : Pos} {params params2 : Arguments} {ps ps2 : List Str} {k k2 j : Nat} {m m2 : MF}
end
end Mir

namespace Mir
open PySem PySem.Spec PyProof.Rows LamX
open L2 (Cx Hp Inv V RelV)
structure LamS1 (sc scope : Scope) (p : Str) : Prop where
  kind : scope.kind = .function
  co : scope.isCoroutine = false
  gen : scope.isGenerator = false
  par : scope.names.lookup p = some .local
  own : ∀ y ∈ scope.names, (y.2 = .local → y.1 = p) ∧ y.2 ≠ .cell
  free : ∀ y ∈ scope.names, y.2 = .free → sc.names.lookup y.1 = some .cell ∨ sc.names.lookup y.1 = some .free
theorem LamS1.has {X : Cx} {scope : Scope} {p : Str} (L : LamS1 X.env.scope scope p) (ok : X.Ok) : ∀ y ∈ scope.names, y.2 = .free → ∃ c, X.env.cells.lookup y.1 = some c := fun y hy e => by
  rcases L.free y hy e with k | k
  · exact ok.has _ (.inl k)
  · exact ok.has _ (.inr k)
section
variable {X : Cx} {pins : List (Addr × Obj)} {σ : L2.St} {H HZ : Hp} {s s1 : Shared}
end
end Mir

namespace Mir
open PySem L2
end Mir

namespace Mir
open PySem L2
def putLot (k : NestedKey) (kp x : P) : List P → List (List P) → List P × List (List P)
  | kk :: ks, l :: ls => if nkOf kk = some k then (kk :: ks, (l ++ [x]) :: ls) else (kk :: (putLot k kp x ks ls).1, l :: (putLot k kp x ks ls).2)
  | _, _ => ([kp], [[x]])
def LotsR (K : PySem.W.Frag) (F H : Hp) (Ok : Addr → Prop) (m : Nat) : List P → List (List P) → List (NestedKey × Addr × V) → Prop
  | [], [], [] => True
  | kk :: ks, l :: ls, e :: es => nkOf kk = some e.1 ∧ Rep K F kk (.ref e.2.1) ∧ (∃ b vs, e.2.2 = .ref b ∧ H b = some (.lst vs) ∧ RepL K F l vs ∧ Ok b ∧ l.length ≤ m) ∧ LotsR K F H Ok m ks ls es
  | _, _, _ => False
section
variable {K : PySem.W.Frag} {F F' H H' : Hp} {Ok Ok' : Addr → Prop} {m m' : Nat}
theorem LotsR.mono (hF : Same F F') (hH : ∀ b o, Ok b → H b = some o → H' b = some o) (hO : ∀ b o, Ok b → H b = some o → Ok' b) (hm : m ≤ m') : ∀ {ks : List P} {ls : List (List P)} {es : List (NestedKey × Addr × V)}, LotsR K F H Ok m ks ls es → LotsR K F' H' Ok' m' ks ls es
  | [], [], [], _ => trivial
  | kk :: ks, l :: ls, e :: es, ⟨h1, h2, ⟨b, vs, e1, h3, h4, h5, h6⟩, h7⟩ => ⟨h1, Rep.mono hF h2, ⟨b, vs, e1, hH _ _ h5 h3, RepL.mono hF h4, hO _ _ h5 h3, Nat.le_trans h6 hm⟩, LotsR.mono hF hH hO hm h7⟩
  | [], [], _ :: _, h => h.elim
  | [], _ :: _, _, h => h.elim
  | _ :: _, [], _, h => h.elim
  | _ :: _, _ :: _, [], h => h.elim
theorem LotsR.keys : ∀ {ks : List P} {ls : List (List P)} {es : List (NestedKey × Addr × V)}, LotsR K F H Ok m ks ls es → nkL ks = some (es.map (·.1)) ∧ RepL K F ks (es.map fun e => .ref e.2.1) ∧ ks.length = es.length
  | [], [], [], _ => ⟨rfl, .nil, rfl⟩
  | kk :: ks, l :: ls, e :: es, ⟨h1, h2, _, h7⟩ => by
    obtain ⟨a, b, c⟩ := LotsR.keys h7
    refine ⟨?_, .cons h2 b, by rw [List.length_cons, List.length_cons, c]⟩
    show (match nkOf kk, nkL ks with
      | some k, some ks => some (k :: ks)
      | _, _ => none) = _
    rw [h1, a]
    rfl
  | [], [], _ :: _, h => h.elim
  | [], _ :: _, _, h => h.elim
  | _ :: _, [], _, h => h.elim
  | _ :: _, _ :: _, [], h => h.elim
theorem LotsR.beside {q : Addr} {o : HO} (hq : ∀ e : NestedKey × Addr × V, e.2.2 ≠ .ref q → True) : ∀ {ks : List P} {ls : List (List P)} {es : List (NestedKey × Addr × V)}, (∀ e ∈ es, e.2.2 ≠ .ref q) → LotsR K F H Ok m ks ls es → LotsR K F (upd H q o) Ok m ks ls es
  | [], [], [], _, _ => trivial
  | kk :: ks, l :: ls, e :: es, hn, ⟨h1, h2, ⟨b, vs, e1, h3, h4, h5, h6⟩, h7⟩ => ⟨h1, h2, ⟨b, vs, e1, by
      rw [upd_ne (fun z => hn e List.mem_cons_self (by rw [e1, z]))]
      exact h3, h4, h5, h6⟩, LotsR.beside hq (fun x hx => hn x (List.mem_cons_of_mem _ hx)) h7⟩
  | [], [], _ :: _, _, h => h.elim
  | [], _ :: _, _, _, h => h.elim
  | _ :: _, [], _, _, h => h.elim
  | _ :: _, _ :: _, [], _, h => h.elim
theorem LotsR.put {k : NestedKey} {kp x : P} {v : V} (hx : Rep K F x v) : ∀ {ks : List P} {ls : List (List P)} {es : List (NestedKey × Addr × V)}, LotsR K F H Ok m ks ls es → (es.map (·.2.2)).Nodup →
    (es.find? (fun e => decide (e.1 = k)) = none ∧ putLot k kp x ks ls = (ks ++ [kp], ls ++ [[x]])) ∨
    ∃ e b vs, es.find? (fun e => decide (e.1 = k)) = some e ∧ e.2.2 = .ref b ∧ H b = some (.lst vs) ∧ vs.length ≤ m ∧ Ok b ∧ LotsR K F (upd H b (.lst (vs ++ [v]))) Ok (m + 1) (putLot k kp x ks ls).1 (putLot k kp x ks ls).2 es
  | [], [], [], _, _ => .inl ⟨rfl, rfl⟩
  | kk :: ks, l :: ls, e :: es, ⟨h1, h2, ⟨b, vs, e1, h3, h4, h5, h6⟩, h7⟩, nd => by
    have nd' := List.nodup_cons.mp nd
    by_cases hk : e.1 = k
    · have hp : putLot k kp x (kk :: ks) (l :: ls) = (kk :: ks, (l ++ [x]) :: ls) := by
        show (if nkOf kk = some k then _ else _) = _
        rw [if_pos (by rw [h1, hk])]
      refine .inr ⟨e, b, vs, by rw [List.find?_cons, decide_eq_true hk], e1, h3, by rw [h4.length]; exact h6, h5, ?_⟩
      rw [hp]
      refine ⟨h1, h2, ⟨b, vs ++ [v], e1, upd_same, h4.append (.cons hx .nil), h5, by rw [List.length_append]; exact Nat.succ_le_succ h6⟩, ?_⟩
      refine LotsR.beside (fun _ _ => trivial) (fun z hz q => nd'.1 (List.mem_map.mpr ⟨z, hz, q.trans e1.symm⟩)) (LotsR.mono (Same.refl _) (fun _ _ _ z => z) (fun _ _ z _ => z) (Nat.le_succ _) h7)
    · have hp : putLot k kp x (kk :: ks) (l :: ls) = (kk :: (putLot k kp x ks ls).1, l :: (putLot k kp x ks ls).2) := by
        show (if nkOf kk = some k then _ else _) = _
        rw [if_neg (by rw [h1]; exact fun z => hk (Option.some.inj z))]
      rcases LotsR.put (k := k) (kp := kp) hx h7 nd'.2 with ⟨g1, g2⟩ | ⟨e', b', vs', g1, g2, g3, g4, g5, g6⟩
      · refine .inl ⟨by rw [List.find?_cons, decide_eq_false hk]; exact g1, ?_⟩
        rw [hp, g2]
        rfl
      · refine .inr ⟨e', b', vs', by rw [List.find?_cons, decide_eq_false hk]; exact g1, g2, g3, g4, g5, ?_⟩
        rw [hp]
        have hne : b ≠ b' := fun z => nd'.1 (List.mem_map.mpr ⟨e', List.mem_of_find?_eq_some g1, by show e'.2.2 = e.2.2; rw [g2, e1, z]⟩)
        exact ⟨h1, h2, ⟨b, vs, e1, by rw [upd_ne hne]; exact h3, h4, h5, Nat.le_succ_of_le h6⟩, g6⟩
  | [], [], _ :: _, h, _ => h.elim
  | [], _ :: _, _, h, _ => h.elim
  | _ :: _, [], _, h, _ => h.elim
  | _ :: _, _ :: _, [], h, _ => h.elim
end
section
variable {K : PySem.W.Frag} {io io1 : Io} {F F1 H H1 : Hp} {S : Sto}
theorem Nxt.put {b : Addr} {o : HO} (n : Nxt io F H io1 F1 H1) (hb : H b = none) : Nxt io F H io1 F1 (upd H1 b o) := by
  refine ⟨n.han, n.fr, fun a u e k => ?_, n.new, fun a e => ?_, n.nf⟩
  · rw [upd_ne (ne_of_none e hb)]
    exact n.out a u e k
  · by_cases q : a = b
    · subst q; exact hb
    · rw [upd_ne q] at e
      exact n.stay a e
end
end Mir

namespace Mir
open PySem L2
theorem Nxt.fresh {K : PySem.W.Frag} {io io1 : Io} {F F1 H H1 : Hp} {q : Addr} (n : Nxt io F H io1 F1 H1) (h : H1 q = none) : H q = none := n.stay q h
section
variable {X : Cx} {W : WX} {x y : Str} {i j k0 : Nat} {iter ke : Expr} {it : MI} {key : ME} {rest : List Stmt} {mrest : MS} {p1 p2 p3 p4 p5 p6 p7 p8 p9 p10 p11 p12 p13 : Pos}
end
end Mir

namespace Mir
open PySem L2
end Mir

namespace Mir
open PySem PySem.Spec PyProof.Rows LamX
open L2 (Cx Hp Inv V RelV)
section
variable {X : Cx} {pins : List (Addr × Obj)} {σ : L2.St} {H HZ : Hp} {s s1 : Shared}
end
end Mir

namespace Mir
open PySem L2
theorem Sta.swap {K : PySem.W.Frag} {io : Io} {F H : Hp} {S : Sto} {k : Nat} {c c' : Cell} (st : Sta K io F S H) (hk : S[k]? = some c) (h : CellAt K io F H k c → CellAt K io F H k c') : Sta K io F (S.set k c') H := by
  refine ⟨by rw [List.length_set]; exact st.len, st.inj, st.sub, st.trk, fun j d e => ?_⟩
  by_cases hj : j = k
  · subst hj
    rw [List.getElem?_set_self (List.getElem?_eq_some_iff.mp hk).1] at e
    cases e
    exact h (st.cel _ _ hk)
  · rw [List.getElem?_set_ne (Ne.symm hj)] at e
    exact st.cel j d e
structure LamP where
  f : Addr
  c : Addr
  jx : Nat
  by_ : Str
  q : Str
  w : Vl → Sto → Res Vl
section
variable {X : Cx} {W : WX} {x q mk p : Str} {c : Addr} {k kG jx : Nat} {G : LamP → MF} {gparams params : Arguments} {ps : List Str} {e1 e2 body : Expr} {scope : Scope} {p1 lpos pos : Pos} {m1 m2 mb : ME}
end
end Mir

namespace Mir
open PySem L2
section
variable {X : Cx} {W : WX} {e : Expr} {es : List Expr} {mas : MA} {x : Str} {p pos : Pos} {params : Arguments} {ps : List Str} {k j : Nat} {m : MF}
end
end Mir

namespace Mir
open PySem L2
def dfB (K : PySem.W.Frag) (dV : Value) (ds : List P) : Bool := match dV with
  | .ref T => (match K.lookup T with
    | some ⟨_, _, .seq its _, _⟩ => repKs K ds its.toList
    | _ => false)
  | _ => false
def ParD (K : PySem.W.Frag) (fd : FuncData) (params : Arguments) (ds : List P) : Prop := ∃ (x qual : Str) (body : List Stmt) (scope : Scope) (T : Addr) (o : Obj) (its : List Value) (n : Nat) (kV doc pm : Value) (an : Option Addr) (cdv ct : Value) (vs : List V),
  fd = PySem.W.fnOf x qual params body scope (.ref T) kV doc pm an cdv ct ∧ K.lookup T = some o ∧ o.data = .seq its.toArray n ∧ Vals vs its ∧ ∀ F, RepL K F ds vs
structure FunDD (K : PySem.W.Frag) (ds : List P) (x qual : Str) (params : Arguments) (body : List Stmt) (scope : Scope) (f : Addr) (fd : FuncData) : Prop where
  dv : ∃ dvs, FunD K x qual params body scope dvs [] f fd
  par : ParD K fd params ds
structure DefMD where
  d : DefM
  ds : List P
def DefMD.ok (K : PySem.W.Frag) (q : DefMD) : Bool := PySem.W.keepIn K (.ref (q.d.ad K)) && ((match K.lookup (q.d.ad K) with
  | some ⟨_, _, .func fd, _⟩ => PySem.W.codeIn K fd.code q.d.qual && dfB K fd.defaults q.ds
  | _ => false) && !q.ds.isEmpty)
theorem DefMD.funD {K : PySem.W.Frag} {q : DefMD} (e : fnM K (q.d.ad K) = q.d.val) (c : q.ok K = true) : ∃ fd, FunDD K q.ds q.d.name q.d.qual q.d.params q.d.body q.d.scope (q.d.ad K) fd := by
  obtain ⟨d, ds⟩ := q
  unfold DefMD.ok at c
  rw [Bool.and_eq_true] at c
  obtain ⟨hk, c⟩ := c
  rw [Bool.and_eq_true] at c
  obtain ⟨c, hne⟩ := c
  unfold fnM at e
  dsimp only at c e hk hne ⊢
  cases q : K.lookup (d.ad K) with
  | none => rw [q] at c; cases c
  | some o =>
    obtain ⟨oc, od, dt, osl⟩ := o
    rw [q] at c e
    cases dt with
    | func fd =>
      obtain ⟨n1, n2, n3, n4, n5, n6, n7, n8, n9, n10, n11, n12, n13, n14, n15⟩ := fd
      have e2 : (some (n1, n2, n3, n4, n5, n6, n7, n15) : He.FnW) = some (d.name, d.qual, d.params, .stmts d.body, d.scope, mainGlobals, [], builtinsNs) := e
      simp only [Option.some.injEq, Prod.mk.injEq] at e2
      obtain ⟨h1, h2, h3, h4, h5, h6, h7, h9⟩ := e2
      subst h1 h2 h3 h4 h5 h6 h7 h9
      dsimp only at c
      rw [Bool.and_eq_true] at c
      obtain ⟨c1, c2⟩ := c
      unfold dfB at c2
      split at c2
      · rename_i T
        split at c2
        · rename_i cT dT its nT sT hT
          obtain ⟨vs, v1, v2⟩ := repKs_ok c2
          have hv : vs ≠ [] := by
            have l1 := (v2 (fun _ => none)).length
            intro z
            rw [z] at l1
            cases ds with
            | nil => cases hne
            | cons _ _ => simp at l1
          refine ⟨_, ⟨vs, ⟨oc, od, _, _, _, _, _, _, _, osl, rfl, q, c1, .inr ⟨hv, T, _, its.toList, nT, rfl, hT, rfl, v1⟩, .inl rfl⟩, hk⟩, _, _, _, _, T, _, its.toList, nT, _, _, _, _, _, _, vs, rfl, hT, rfl, v1, v2⟩
        · cases c2
      · cases c2
    | _ => cases c
section
variable {X : Cx} {W : WX} {e : Expr} {es : List Expr} {mas mks : MA} {x : Str} {p pos : Pos} {params : Arguments} {ps ks : List Str} {ds : List P} {k j n : Nat} {m : MF} {kws : List Keyword} {pm : List Nat}
end
end Mir

namespace Mir
open PySem L2
section
variable {X : Cx} {W : WX} {pos : Pos} {keys : List (Option Expr)} {values : List Expr}
end
end Mir

namespace Mir
open PySem L2
section
variable {X : Cx} {W : WX} {a o : Expr} {ma mo : ME} {apos pos : Pos}
end
end Mir

namespace Mir
open PySem PySem.Spec PyProof.Rows L2
section
variable {K : PySem.W.Frag} {io io1 : Io} {F F1 H H1 : Hp} {S S1 : Sto} {Q : VK} {E : XK}
variable {X : Cx}
end
section
variable {X : Cx} {W : WX} {a o : Expr} {ma mo : ME} {apos pos p : Pos}
end
section
variable {K : PySem.W.Frag} {io io1 : Io} {F F1 H H1 : Hp} {S S1 : Sto} {Q : VK} {E : XK}
end
section
variable {P : Program} {w : World} {K : PySem.W.Frag} {mg : Str → Option Value} {base : Heap} {x qual : Str} {params : Arguments} {body : List Stmt} {scope : Scope} {dvs : List V} {kws : List (Str × V)} {f : Addr} {fd : FuncData} {N ps : List Str} {k nl : Nat} {m : MS}
end
end Mir

namespace HT
open PySem PySem.Spec PyProof.Rows
end HT
namespace Mir
open PySem PySem.Spec PyProof.Rows L2
section
variable {X : Cx}
end
section
variable {X : Cx} {W : WX} {e : Expr} {me : ME}
end
end Mir

namespace IdE
open PySem PySem.Spec PyProof.Rows PySem.SeqAt
section
variable {M : Model} {prog : Program} {w : World} {A : Around} {E : Value → Shared → Prop} {s : Shared} {K : PySem.W.Frag} {x y C D f : Addr} {ox oy : Obj} {od od' : Option Obj}
end
end IdE

namespace Mir
open PySem PySem.Spec PyProof.Rows L2
section
variable {X : Cx} {W : WX} {a b : Expr} {ma mb : ME} {x y : Str} {pos : Pos} {params : Arguments} {ps : List Str} {k j : Nat} {m : MF}
end
end Mir

namespace Rw
open PySem PySem.Spec PyProof.Rows L2 Mir
section
variable {X : Cx} {pins : List (Addr × Obj)} {σ : L2.St} {H : Hp} {s : Shared}
end
section
variable {X : Cx}
end
end Rw

namespace Rw
open PySem PySem.Spec PyProof.Rows L2 Mir
section
variable {X : Cx}
theorem PAT.of {es : List Expr} {t : TA} (h : PA X es t) : PAT X es t := fun pos pins s σ H Q _ I q => h.run pos pins s σ H Q I q
end
end Rw
namespace Mir
open PySem L2
section
variable {X : Cx} {W : WX} {iter : Expr} {it : MI} {a b k : Str} {ia ib ik n0 : Nat} {p1 p2 p3 p4 p5 p6 tpos apos cpos pos fpos : Pos}
end
section
variable {X : Cx} {W : WX} {es : List Expr} {mas : MA} {rest : List Stmt} {mrest : MS}
end
end Mir

namespace Rw
open PySem PySem.Spec PyProof.Rows
section
variable {M : Model} {A : Around} {E : Value → Shared → Prop} {s₀ s : Shared} {m cm : Str → Option Value} {env : PySem.Env}
end
end Rw
namespace Mir
open PySem L2
section
variable {P : Program} {w : World} {K : PySem.W.Frag} {mg : Str → Option Value} {base : Heap} {x qual : Str} {params : Arguments} {body : List Stmt} {scope : Scope} {dvs : List V} {kws : List (Str × V)} {f : Addr} {fd : FuncData} {N ps : List Str} {k nl : Nat} {m : MS}
end
section
variable {X : Cx} {W : WX} {es : List Expr} {mas : MA} {rest : List Stmt} {mrest : MS}
end
end Mir

namespace Mir
open PySem L2
abbrev MD := List Vl → Sto → Option (List P × List P × Sto)
section
variable {X : Cx} {W : WX} {x y : Str} {i j k0 : Nat} {iter ke : Expr} {it : MI} {key : ME} {p1 p2 p3 p4 p5 p6 p8 p10 p12 p13 p14 p15 : Pos}
end
section
variable {P : Program} {w : World} {K : PySem.W.Frag} {mg : Str → Option Value} {base : Heap} {x qual : Str} {params : Arguments} {body : List Stmt} {scope : Scope} {dvs : List V} {kws : List (Str × V)} {f : Addr} {fd : FuncData} {N ps : List Str} {k nl i j : Nat} {it : MI} {key : ME}
end
section
variable {X : Cx} {W : WX} {e ke : Expr} {es : List Expr} {mas : MA} {key : ME} {x : Str} {p pos pos2 apos mpos p0 : Pos} {params : Arguments} {ps : List Str} {k j : Nat} {m : MD}
end
end Mir

namespace Sx
open PySem PySem.W PySem.Calls PyProof.Rows PySem.SeqAt
section
variable {A : Around} {s : Shared}
end
section
variable {prog : Program} {w : World} {A : Around} {E : Value → Shared → Prop} {s : Shared}
end
section
variable {M : Model} {A : Around} {E : Value → Shared → Prop} {s : Shared}
end
section
variable {prog : Program} {w : World} {A : Around} {s : Shared}
end
end Sx
namespace Mir
open PySem L2
section
variable {X : Cx} {k : Nat}
end
section
variable {K : PySem.W.Frag}
end
section
variable {X : Cx} {W : WX} {a : Expr} {ma : ME} {pos p : Pos} {k : Nat}
end
end Mir

namespace Dx
open PySem PySem.Spec PyProof.Rows L2
section
variable {X : Cx}
end
end Dx
namespace Mir
open PySem L2
section
variable {X : Cx} {W : WX} {a b : Expr} {ma mb : ME} {pos : Pos} {k : Nat}
end
end Mir

namespace Mir
open PySem L2
section
variable {K : PySem.W.Frag} {Q : VK} {E : XK}
end
section
variable {X : Cx} {W : WX} {tg iter kx vx : Expr} {it : MI} {g : MG} {ke ve : ME} {js : List Nat} {scope : Scope} {own : List (Str × Nat)} {pos : Pos}
end
section
variable {X : Cx} {W : WX} {o : Expr} {mo : ME} {td : TE} {apos pos p mpos : Pos}
end
end Mir

namespace Mir
open PySem PySem.Spec L2
def rawAt (i : Nat) (ρ : En) : Option Addr := match ρ[i]? with
  | some (some (.p (.raw a))) => some a
  | _ => none
theorem raw_slot {K : PySem.W.Frag} {io : Io} {F : Hp} {ρ : En} {σ : L2.St} {i : Nat} {a : Addr} (en : Mir.Env K io F ρ σ) (h : rawAt i ρ = some a) : σ[i]? = some (some (.ref a)) := by
  unfold rawAt at h
  split at h
  · rename_i b e
    have h : b = a := Option.some.inj h
    subst h
    obtain ⟨v, e2, r⟩ := en.get e
    have r : v = .ref b := r
    rw [e2, r]
  · cases h
section
variable (X : Cx) (i : Nat)
def OS1X (s : Stmt) (m : Str → XD → MS) : Prop := ∀ (a : Addr) (oe : Obj) (c : Str) (d : Option Addr) (pn : List (Addr × Obj)), Zc (.ref (He.ga X.K c)) d oe → (∃ vs, oe.data = .fields vs) →
  ∃ t, PS (X.suite a ((a, oe) :: pn)) s t ∧ ∀ (x : XD) (ρ : En) (S : Sto) (io : Io) (F : Hp) (σ : L2.St) (H : Hp) (D : Ends), Sta X.K io F S H → Mir.Env X.K io F ρ σ → rawAt i ρ = some a → XRep X.K F H x d → RS X.K (m c x ρ S) io F H D W0 → t D σ H
def OSsX (ss : List Stmt) (m : Str → XD → MS) : Prop := ∀ (a : Addr) (oe : Obj) (c : Str) (d : Option Addr) (pn : List (Addr × Obj)), Zc (.ref (He.ga X.K c)) d oe → (∃ vs, oe.data = .fields vs) →
  ∃ t, PSs (X.suite a ((a, oe) :: pn)) ss t ∧ ∀ (x : XD) (ρ : En) (S : Sto) (io : Io) (F : Hp) (σ : L2.St) (H : Hp) (D : Ends), Sta X.K io F S H → Mir.Env X.K io F ρ σ → rawAt i ρ = some a → XRep X.K F H x d → RS X.K (m c x ρ S) io F H D W0 → t D σ H
end
def sSeqX (i : Nat) (m m2 : MS) : MS := fun ρ S => match m ρ S with
  | .ok (.nx ρ1) S1 => if rawAt i ρ1 = rawAt i ρ then m2 ρ1 S1 else .bad
  | r => r
section
variable {X : Cx} {i : Nat} {s : Stmt} {ss as : List Stmt} {e cc o a b : Expr} {m m2 : Str → XD → MS} {me ma : Str → XD → ME} {mt : Str → XD → MT} {mo : ME} {ms : MS} {pos apos p : Pos}
theorem osx_nil : OSsX X i [] (fun _ _ => sPass) := fun a oe c d pn hz hf => ⟨_, pss_nil, fun x ρ S io F σ H D st en ra xr h => h io F H σ Nxt.refl st en⟩
theorem osx_cons (h1 : OS1X X i s m) (h2 : OSsX X i ss m2) : OSsX X i (s :: ss) (fun c x => sSeqX i (m c x) (m2 c x)) := fun a oe c d pn hz hf => by
  obtain ⟨t, p, h1⟩ := h1 a oe c d pn hz hf
  obtain ⟨u, q, h2⟩ := h2 a oe c d pn hz hf
  refine ⟨_, pss_cons p q, fun x ρ S io F σ H D st en ra xr h => ?_⟩
  refine h1 x ρ S io F σ H _ st en ra xr ?_
  have h : RS X.K (sSeqX i (m c x) (m2 c x) ρ S) io F H D W0 := h
  unfold sSeqX at h
  cases r : m c x ρ S with
  | bad => rw [r] at h; exact h
  | ok f S1 =>
    rw [r] at h
    cases f with
    | nx ρ1 =>
      dsimp only at h
      by_cases hra : rawAt i ρ1 = rawAt i ρ
      · rw [if_pos hra] at h
        exact fun io1 F1 H1 σ1 n1 s1 en1 => h2 x ρ1 S1 io1 F1 σ1 H1 D s1 en1 (hra.trans ra) (xr.nxt n1) (RS.step n1 h)
      · rw [if_neg hra] at h
        exact h.elim
    | rt d => exact h
    | bk ρ1 => exact h
    | ct ρ1 => exact h
    | xc ρ1 c x => exact h
theorem osx_of (h : ∀ (a : Addr) (oe : Obj) (pn : List (Addr × Obj)), OS (X.suite a ((a, oe) :: pn)) W0 s ms) : OS1X X i s (fun _ _ => ms) := fun a oe c d pn hz hf => by
  obtain ⟨t, p, h⟩ := h a oe pn
  exact ⟨t, p, fun x ρ S io F σ H D st en ra xr q => h ρ S io F σ H D st en q⟩
theorem osx_if (hc : OTX X i cc mt) (ha : OSsX X i as m) : OS1X X i (.If cc as [] pos) (fun c x => sIf (mt c x) (m c x) sPass) := fun a oe c d pn hz hf => by
  obtain ⟨t, p, hc⟩ := hc a oe c d pn hz hf
  obtain ⟨u, q, ha⟩ := ha a oe c d pn hz hf
  refine ⟨_, ps_if p q pss_nil, fun x ρ S io F σ H D st en ra xr h => ?_⟩
  refine hc x ρ S io F σ H _ st en ⟨raw_slot en ra, xr⟩ (RS.go en h fun d S1 io1 F1 H1 v e1 n1 s1 r1 h1 => ?_)
  cases r1
  cases d with
  | true => exact iteT (ha x ρ S1 io1 F1 σ H1 D s1 (en.nxt n1) ra (xr.nxt n1) h1)
  | false => exact iteF (h1 io1 F1 H1 σ Nxt.refl s1 (en.nxt n1))
theorem osx_expr (he : OEX X i e me) (hs : swapsWith e none pos.line X.env = pure false := by rfl) : OS1X X i (.Expr e pos) (fun c x => sExpr (me c x)) := fun a oe c d pn hz hf => by
  obtain ⟨t, p, he⟩ := he a oe c d pn hz hf
  refine ⟨_, ps_expr p hs, fun x ρ S io F σ H D st en ra xr h => ?_⟩
  exact he x ρ S io F σ H _ st en ⟨raw_slot en ra, xr⟩ (RS.go en h fun d S1 io1 F1 H1 v e1 n1 s1 r1 h1 => h1 io1 F1 H1 σ Nxt.refl s1 (en.nxt n1))
theorem oex_app (ho : ∀ (a : Addr) (oe : Obj) (pn : List (Addr × Obj)), OE (X.suite a ((a, oe) :: pn)) W0 o mo) (ha : OEX X i a ma)
    (hbase : attributeBase o "append" X.env (eval o X.env) = eval o X.env := by rfl)
    (hfew : ((backTo pos (starEach [a] X.env)).all (fun x => !x.1) && (backToKw pos (keywordEach [] X.env)).all (fun x => x.1.isSome)
      && decide (([a] : List Expr).length + ([] : List Keyword).length + (if ([] : List Keyword).isEmpty then 0 else 1) < 30)) = true := by rfl)
    (hline : (apos.endLine == pos.line) = true := by rfl) (hs : starEach [a] X.env = (false, eval a X.env) :: starEach [] X.env := by rfl) :
    OEX X i (.Call (.Attribute o "append" apos) [a] [] pos) (fun c x => eMut isL fApp mo (aCons (ma c x) aNil)) := fun a0 oe c d pn hz hf => by
  obtain ⟨u, p, ho⟩ := ho a0 oe pn
  obtain ⟨t, q, ha⟩ := oax_cons ha oax_nil hs a0 oe c d pn hz hf
  refine ⟨_, pe_bm PySem.F.plainAttrs_list PySem.F.slot_list_append PySem.F.type_list_append mt_append p q hbase hfew hline hs rfl, fun x ρ S io F σ H Q st en sx h => ?_⟩
  refine ho ρ S io F σ H _ st en (RG.bind h fun d S1 io1 F1 H1 v e1 n1 s1 r1 h1 => ?_)
  by_cases q2 : isL S1 d = true
  · rw [if_pos q2] at h1
    refine ⟨guardL _ _ _ _ _ _ s1 r1 q2, ?_⟩
    refine ha x ρ S1 io1 F1 σ H1 _ s1 (en.nxt n1) (sx.nxt n1) (RG.bind h1 fun d2 S2 io2 F2 H2 v2 e2 n2 s2 r2 h2 => ?_)
    exact ok_app io2 F2 S2 H2 d v d2 v2 Q _ s2 (r1.mono n2.han n2.fr) r2 h2
  · rw [if_neg q2] at h1
    exact h1.elim
end
def KtOk (K : PySem.W.Frag) (T : Sb) : Prop := ∀ q ∈ T, ExcC K (He.ga K q.1) ∧ PySem.W.kitOne K (.ref (He.ga K q.1)) (.ref (He.ga K q.2.1)) = some q.2.2
def ktB (K : PySem.W.Frag) (T : Sb) : Bool := T.all fun q => excB K (He.ga K q.1) && decide (PySem.W.kitOne K (.ref (He.ga K q.1)) (.ref (He.ga K q.2.1)) = some q.2.2)
theorem ktB_ok {K : PySem.W.Frag} {T : Sb} (h : ktB K T = true) : KtOk K T := fun q hq => by
  obtain ⟨a, b⟩ := He.ba (List.all_eq_true.mp h q hq)
  exact ⟨excB_ok a, of_decide_eq_true b⟩
theorem kt_at {K : PySem.W.Frag} {T : Sb} {c h : Str} {b : Bool} (ok : KtOk K T) (e : sbAt T c h = some b) : ExcC K (He.ga K c) ∧ PySem.W.kitOne K (.ref (He.ga K c)) (.ref (He.ga K h)) = some b := by
  unfold sbAt at e
  cases q : T.find? fun q => q.1 == c && q.2.1 == h with
  | none => rw [q] at e; cases e
  | some r =>
    rw [q] at e
    have e : r.2.2 = b := Option.some.inj e
    have hp := List.find?_some q
    have hm := List.mem_of_find?_eq_some q
    rw [Bool.and_eq_true, beq_iff_eq, beq_iff_eq] at hp
    have := ok r hm
    rw [hp.1, hp.2, e] at this
    exact this
def eXiT (T : Sb) (B : Str) : Str → XD → ME := fun c x _ S => match sbAt T c B with
  | some b => (match x with
    | some _ => .ok (.p (.bl b)) S
    | none => .bad)
  | none => .bad
section
variable {X : Cx} {i : Nat} {pos p : Pos}
theorem oex_isiT {T : Sb} {n B : Str} {pB pn_ : Pos} (ok : KtOk X.K T) (hN : X.N[i]? = some n) (hv : Vis X.env.scope n) (hm : X.mg "isinstance" = none) (gB : X.mg B = some (.ref (He.ga X.K B)))
    (hB : Gl X B := by rfl) (hg : Gl X "isinstance" := by rfl) (hd : (n == ("__debug__" : Str)) = false := by decide) (hcd : (n == ("__classdict__" : Str)) = false := by decide) (hdb : (B == ("__debug__" : Str)) = false := by decide)
    (hs : starEach [.Name n pn_, .Name B pB] X.env = (false, eval (.Name n pn_) X.env) :: starEach [.Name B pB] X.env := by rfl) (hs2 : starEach [.Name B pB] X.env = (false, eval (.Name B pB) X.env) :: starEach [] X.env := by rfl) (hplain : (backTo pos (starEach [.Name B pB] X.env)).any (·.1) = false := by rfl) :
    OEX X i (.Call (.Name "isinstance" p) [.Name n pn_, .Name B pB] [] pos) (eXiT T B) := fun a oe c d pn hz hf => by
  cases q : sbAt T c B with
  | none =>
    refine ⟨fun _ _ _ => False, ⟨fun _ _ _ _ _ _ z => z.elim⟩, fun x ρ S io F σ H Q st en sx hh => ?_⟩
    unfold eXiT at hh
    rw [q] at hh
    exact hh.elim
  | some bb =>
    obtain ⟨hT, hk⟩ := kt_at ok q
    refine ⟨_, pe_callB (X := X.suite a ((a, oe) :: pn)) (call_isX hT hz hf) hg hm (by first | rfl | decide +kernel) (pa_cons (pe_var (X := X.suite a ((a, oe) :: pn)) hN hv hd hcd) (pa_cons (pe_glob (X := X.suite a ((a, oe) :: pn)) hB gB (v := .ref (He.ga X.K B)) rfl hdb) pa_nil hs2) hs) (by decide) (by decide) hs hplain, fun x ρ S io F σ H Q st en sx hh => ?_⟩
    unfold eXiT at hh
    rw [q] at hh
    cases x with
    | none => exact hh.elim
    | some q =>
      obtain ⟨ns, xs⟩ := q
      obtain ⟨dd, gs, ed, ha, hn, r⟩ := sx.xr
      refine ⟨.ref a, sx.sl, ?_⟩
      exact ⟨.ref (He.ga X.K B), .ref (He.ga X.K B), bb, rfl, fun u r => r, hk, ⟨dd, gs, ed, st.sub _ _ ha⟩, hh io F H (.bl bb) Nxt.refl st rfl⟩
end
abbrev MSx := Str → XD → Sto → Res Vl
structure FnE (P : Program) (w : World) (K : PySem.W.Frag) (mg : Str → Option Value) (base : Heap) (f : Addr) (m : MSx) : Prop where
  run : ∀ (A : Around) (outer : List PySem.Env) (s : Shared) (H : Hp) (a : Addr) (oe : Obj) (c : Str) (d : Option Addr) (x : XD) (S : Sto) (io : Io) (F : Hp) (Q : VK) (E : XK), A.handled = some (.ref a) → L2H.RoomH 1 A → Env0 P w K mg base A outer s H →
    s.heap.get? a = some oe → H a = none → a ∉ frs outer → Zc (.ref (He.ga K c)) d oe → (∃ vs, oe.data = .fields vs) → Sta K io F S H → XRep K F H x d → RG K (RepA K) (m c x S) io F H Q E0 →
    codeAny (model P w) A (.call (.ref f) ⟨[.ref a], []⟩) (CR (L2.CX P w) outer P w H s Q E) s
section
variable {P : Program} {w : World} {K : PySem.W.Frag} {mg : Str → Option Value} {base : Heap} {x qual p : Str} {params : Arguments} {body : List Stmt} {scope : Scope} {f : Addr} {fd : FuncData} {N : List Str} {nl : Nat} {m : Str → XD → MS} {mS : MSx}
theorem fn_okE (F : FunD K x qual params body scope [] [] f fd) (sc : FnScope N [p] scope) (hN : N.length = 1 + nl) (hb : Binds K fd [p] [])
    (hbo : ∀ (cdv : Value) (A : Around) (outer : List PySem.Env) (s : Shared) (H : Hp), (A.deeper (PyProof.Rows.envOfC qual scope s.heap.objs.size f cdv)).units + 64 < cLine → OSsX (cxOf (L2.CX P w) P w K mg base N qual scope f cdv A outer s H E0) 0 body m)
    (hI : ∀ (a : Addr) (c : Str) (x : XD) (S : Sto) (d : Vl) (S' : Sto), mS c x S = .ok d S' → endF S.length (m c x (some (.p (.raw a)) :: List.replicate nl none) S) = .ok d S') (hx : ∀ c x S c' x' S', mS c x S ≠ .exc c' x' S') :
    FnE P w K mg base f mS := by
  obtain ⟨oc, od, dV, kV, doc, pm, an, cdv, ct, osl, rfl, lk, hcd, _, _⟩ := F.ex
  refine ⟨fun A outer s H a oe c d x S io F0 Q E hh hr e0 hga hHa hfr hz hf st xr hsp => ?_⟩
  have KX : K.In s.heap := e0.mod.kin.keeps fun b o e => (e0.bs b o e).1
  have lim : s.heap.NoLimit := e0.mod.nolimit.keeps fun b o e => (e0.bs b o e).1
  have hbd := hb s [.ref a] KX (by rfl)
  rw [List.append_nil] at hbd
  refine codeAny_call_function hr.depth (KX _ _ lk) rfl sc.co sc.gen rfl (PySem.W.codeRec_of KX hcd) (hbd _ _ _ _ ?_)
  refine wpAny_newFunctionEnv_cells sc.kind (fun y hy => ?_) fun env he s1 xx => ?_
  · rcases sc.par y.1 (List.of_mem_zip hy).1 with q | q
    · exact .inl q
    · exact .inr ⟨q, PySem.W.cellsFrom_some _ _ _ (.inl q)⟩
  · subst he
    have e1 : Env0 P w K mg base { A with handled := none } outer s H := ⟨e0.frames, e0.mod, e0.bs, e0.bsz, e0.funs, e0.frf, e0.hok, e0.bare⟩
    have I := inv_start (CX := L2.CX P w) (A := { A with handled := none }) (E := E0) sc rfl e1 (vs := [.ref a]) (us := [.ref a]) rfl (.cons rfl .nil) xx
    obtain ⟨vs, hd⟩ := id hf
    have lt : a < s.heap.objs.size := Heap.lt_size hga
    have J := I.suite (xx.toInCall.keep _ _ hga) hd hHa (Nat.ne_of_lt lt) hfr
    obtain ⟨t, pt, ht⟩ := hbo cdv { A with handled := none } outer s H (by have := hr.un; show A.units + 3 + 64 < cLine; omega) a oe c d ([] ++ []) hz hf
    have en : Mir.Env K io F0 (some (.p (.raw a)) :: List.replicate nl none) (L2.start N [.ref a]) := by
      have := Env.start (K := K) (io := io) (F := F0) nl (ds := [.p (.raw a)]) (vs := [.ref a]) ⟨_, _, rfl, rfl, rfl⟩
      have hst : L2.start N [.ref a] = ([.ref a] : List V).map some ++ List.replicate nl none := by
        unfold L2.start
        rw [hN]
        congr 2
        simp
      rw [hst]
      exact this
    have hsp2 : RG K (RepA K) (endF S.length (m c x (some (.p (.raw a)) :: List.replicate nl none) S)) io F0 H Q E0 := by
      cases q : mS c x S with
      | bad => rw [q] at hsp; exact hsp.elim
      | ok d S' => rw [hI a c x S d S' q]; rw [q] at hsp; exact hsp
      | exc c' x' S' => exact absurd q (hx c x S c' x' S')
    have hq := ht x _ S io F0 _ H { nx := fun _ H' => Q .non H', rt := Q } st en rfl xr (end_rs st hsp2)
    have eA : (({ A with handled := none } : Around).deeper (PyProof.Rows.envOfC qual scope s.heap.objs.size f cdv)).mark (some (.ref a)) = A.deeper (PyProof.Rows.envOfC qual scope s.heap.objs.size f cdv) := by
      cases A
      dsimp only at hh
      subst hh
      rfl
    refine ⟨lim.keeps xx.toInCall.keep, codeAny_func ?_⟩
    have key := pt.run [] s1 (L2.start N [.ref a]) H _ J hq
    rw [show (Cx.suite (cxOf (L2.CX P w) P w K mg base N qual scope f cdv { A with handled := none } outer s H E0) a ((a, oe) :: ([] ++ []))).A = A.deeper (PyProof.Rows.envOfC qual scope s.heap.objs.size f cdv) from eA] at key
    refine wpAny_mono key (fun fl s' hs => ?_) fun e s' hs => hs.elim
    cases fl with
    | ret u =>
      obtain ⟨v, σ', H', J, rv, q⟩ := hs
      exact ⟨v, H', J.os, J.bare, J.base, J.hok, rv, q⟩
    | next =>
      obtain ⟨σ', H', J, q⟩ := hs
      exact ⟨.non, H', J.os, J.bare, J.base, J.hok, rfl, q⟩
    | brk =>
      obtain ⟨_, _, _, q⟩ := hs
      exact q.elim
    | cont =>
      obtain ⟨_, _, _, q⟩ := hs
      exact q.elim
end
structure GE (P : Program) (w : World) (K : PySem.W.Frag) (mg : Str → Option Value) (base : Heap) (x : Str) (m : MSx) : Prop where
  gl : mg x = some (.ref (He.ga K x))
  kp : PySem.W.keepIn K (.ref (He.ga K x)) = true
  fn : FnE P w K mg base (He.ga K x) m
theorem ox_retE {X : Cx} {i k : Nat} {f n : Str} {m : MSx} {p p2 pos rpos : Pos} (G : GE X.prog X.w X.K X.mg X.base f m) (hst : X.stack = X.env :: X.outer) (hfr : X.env.frame = some X.env.locals) (hr : RoomG k X.A) (hk : 1 ≤ k) (hN : X.N[i]? = some n) (hv : Vis X.env.scope n) (hg : Gl X f := by rfl)
    (hdb : (f == ("__debug__" : Str)) = false := by decide) (hd : (n == ("__debug__" : Str)) = false := by decide) (hcd : (n == ("__classdict__" : Str)) = false := by decide) (hs : starEach [.Name n p2] X.env = (false, eval (.Name n p2) X.env) :: starEach [] X.env := by rfl) :
    OX X (some i) [.Return (some (.Call (.Name f p) [.Name n p2] [] pos)) rpos] (fun c x => sRet (fun _ S => m c x S)) := fun a oe c d pn hz hf => by
  have pe : PE (X.suite a ((a, oe) :: pn)) (.Call (.Name f p) [.Name n p2] [] pos) (fun σ H Q => ∃ x S io F, σ[i]? = some (some (.ref a)) ∧ Sta X.K io F S H ∧ XRep X.K F H x d ∧ RG X.K (RepA X.K) (m c x S) io F H Q E0) := by
    refine ⟨fun pins s σ H Q I h => ?_⟩
    obtain ⟨x, S, io, F, sl, st, xr, h⟩ := h
    refine wpAny_Call_Name_kw (ld_glob (X := X.suite a ((a, oe) :: pn)) I hg G.gl ?_ hdb)
    refine PySem.W.callWith_K (h₀ := X.base) I.ok.mod.kin G.kp (thn ((pa_cons (pe_var (X := X.suite a ((a, oe) :: pn)) (pos := p2) hN hv hd hcd) pa_nil hs).run pos pins s σ H (fun vs H1 => vs = [.ref a] ∧ H1 = H) I ⟨.ref a, sl, rfl, rfl⟩) fun us s1 ⟨vs, H1, I1, r, qv, qH⟩ => ⟨I1.kIn, ?_⟩) hs (by rfl)
    subst qv
    subst qH
    have hu : us = [.ref a] := Vals.ref1 r
    subst hu
    obtain ⟨hga, hHa, hnl, hnf, _⟩ := I1.pin (a, oe) (List.mem_append.mpr (.inl List.mem_cons_self))
    refine wpAny_call (codeAny_mono (G.fn.run (X.suite a ((a, oe) :: pn)).A X.stack s1 H1 a oe c d x S io F Q E0 rfl ?_ I1.env0 hga hHa ?_ hz hf st xr h) fun r s' hq => ?_)
    · exact ⟨by have := hr.r.dp; show X.A.depth + _ < _; omega, by have := hr.r.un; show X.A.units + _ < _; omega⟩
    · rw [hst]
      show a ∉ List.filterMap (fun x => x.frame) (X.env :: X.outer)
      rw [List.filterMap_cons, hfr]
      exact fun z => (List.mem_cons.mp z).elim hnl hnf
    · match r, hq with
      | .error e, ⟨_, _, _, _, _, _, _, _, _, _, _, _, z⟩ => exact z.elim
      | .ok (.ret u), hq => exact I1.after hq
      | .ok .next, hq => exact hq.elim
      | .ok .brk, hq => exact hq.elim
      | .ok .cont, hq => exact hq.elim
  refine ⟨_, pss_one (ps_ret pe), fun x ρ S io F σ H D s en sl xr h => ?_⟩
  exact ⟨x, S, io, F, sl i rfl, s, xr, RS.go (R := RepA X.K) en h fun d S1 io1 F1 H1 v e1 n1 s1 r1 h1 => h1 io1 F1 H1 v Nxt.refl s1 r1⟩
end Mir

namespace Mir
open PySem L2
def rowX (T : Sb) (B : Str) (nm : List Nat) (f : Str) (c : Str) (x : XD) : MS := sIf (tVal (eXiT T B c x)) (sSeqX 0 (sExpr (eMut isL fApp (eVar 1) (aCons (eTup (aCons (eC (.str nm)) (aCons (eXf B f c x) aNil))) aNil))) sPass) sPass
def rowsX (T : Sb) : List (Str × List Nat × Str) → (Str → XD → MS) → Str → XD → MS
  | [], last, c, x => last c x
  | (B, nm, f) :: r, last, c, x => sSeqX 0 (rowX T B nm f c x) (rowsX T r last c x)
def lastX : MS := sRet (eIfM (tVal (eBin pEq (eCall pLen (aCons (eVar 1) aNil)) (eC (.int 1)))) (eItem (eVar 1) (eC (.int 0))) (eC .non))
def bodyX (T : Sb) (rows : List (Str × List Nat × Str)) (c : Str) (x : XD) : MS := sSeqX 0 (sAsg (eLstC aNil) (gNm 1)) (rowsX T rows (fun _ _ => sSeqX 0 lastX sPass) c x)
def sortM (T : Sb) (rows : List (Str × List Nat × Str)) : MSx := fun c x S => match x with
  | some ([f], [z]) => (match rows.filter fun r => sbAt T c r.1 == some true with
    | [r] => if r.1 = c ∧ r.2.2 = f ∧ rows.length < 100 ∧ (rows.all fun r => (sbAt T c r.1).isSome) = true then .ok (.p (.tup [.str r.2.1, z])) S else .bad
    | _ => .bad)
  | _ => .bad
theorem sSeqX_nx {m m2 : MS} {ρ ρ1 : En} {S S1 : Sto} (h : m ρ S = .ok (.nx ρ1) S1) (hr : rawAt 0 ρ1 = rawAt 0 ρ) : sSeqX 0 m m2 ρ S = m2 ρ1 S1 := by
  unfold sSeqX
  rw [h]
  dsimp only
  rw [if_pos hr]
abbrev rhoX (a k : Nat) : En := [some (.p (.raw a)), some (.c k)]
theorem row_f {T : Sb} {B : Str} {nm : List Nat} {f c f' : Str} {z : P} {a k : Nat} {S : Sto} (h : sbAt T c B = some false) : rowX T B nm f c (some ([f'], [z])) (rhoX a k) S = .ok (.nx (rhoX a k)) S := by
  have e : tVal (eXiT T B c (some ([f'], [z]))) (rhoX a k) S = .ok false S := by
    unfold tVal eXiT
    rw [h]
    rfl
  unfold rowX sIf
  rw [e]
  rfl
theorem row_t {T : Sb} {B : Str} {nm : List Nat} {f c : Str} {z : P} {a k : Nat} {S : Sto} {acc : List P} (h : sbAt T c B = some true) (hc : c = B) (hk : S[k]? = some (.lst acc)) (hl : acc.length < 1000) :
    rowX T B nm f c (some ([f], [z])) (rhoX a k) S = .ok (.nx (rhoX a k)) (S.set k (.lst (acc ++ [.tup [.str nm, z]]))) := by
  subst hc
  have e : tVal (eXiT T c c (some ([f], [z]))) (rhoX a k) S = .ok true S := by
    unfold tVal eXiT
    rw [h]
    rfl
  have e2 : eXf c f c (some ([f], [z])) (rhoX a k) S = .ok (.p z) S := by
    unfold eXf
    rw [if_pos rfl]
    dsimp only
    have : (([f] : List Str).zip [z]).lookup f = some z := by
      show List.lookup f [(f, z)] = some z
      rw [List.lookup_cons]
      simp
    rw [this]
  have e3 : aCons (eTup (aCons (eC (.str nm)) (aCons (eXf c f c (some ([f], [z]))) aNil))) aNil (rhoX a k) S = .ok [.p (.tup [.str nm, z])] S := by
    have e4 : aCons (eXf c f c (some ([f], [z]))) aNil (rhoX a k) S = .ok [.p z] S := by
      unfold aCons
      rw [e2]
      rfl
    have e5 : aCons (eC (.str nm)) (aCons (eXf c f c (some ([f], [z]))) aNil) (rhoX a k) S = .ok [.p (.str nm), .p z] S := by
      show (Res.ok (Vl.p (.str nm)) S).bind (fun d S1 => (aCons (eXf c f c (some ([f], [z]))) aNil (rhoX a k) S1).bind fun ds S2 => .ok (d :: ds) S2) = _
      show ((aCons (eXf c f c (some ([f], [z]))) aNil (rhoX a k) S).bind fun ds S2 => Res.ok (Vl.p (.str nm) :: ds) S2) = _
      rw [e4]
      rfl
    have e6 : eTup (aCons (eC (.str nm)) (aCons (eXf c f c (some ([f], [z]))) aNil)) (rhoX a k) S = .ok (.p (.tup [.str nm, z])) S := by
      unfold eTup
      rw [e5]
      rfl
    have : ∀ m : ME, m (rhoX a k) S = .ok (.p (.tup [.str nm, z])) S → aCons m aNil (rhoX a k) S = .ok [.p (.tup [.str nm, z])] S := fun m h => by
      unfold aCons
      rw [h]
      rfl
    exact this _ e6
  have e7 : eMut isL fApp (eVar 1) (aCons (eTup (aCons (eC (.str nm)) (aCons (eXf c f c (some ([f], [z]))) aNil))) aNil) (rhoX a k) S = .ok (.p .non) (S.set k (.lst (acc ++ [.tup [.str nm, z]]))) := by
    have v : eVar 1 (rhoX a k) S = .ok (.c k) S := rfl
    have g : isL S (.c k) = true := by
      unfold isL
      dsimp only
      rw [hk]
    unfold eMut
    rw [v]
    show (if isL S (.c k) = true then _ else _) = _
    rw [if_pos g, e3]
    show fApp (.c k) [.p (.tup [.str nm, z])] S = _
    unfold fApp
    dsimp only
    rw [hk]
    dsimp only
    show (match S[k]? with
      | some (Cell.lst xs) => if xs.length < 100000 then Res.ok (Vl.p P.non) (S.set k (.lst (xs ++ [P.tup [.str nm, z]]))) else .bad
      | _ => .bad) = _
    rw [hk]
    dsimp only
    rw [if_pos (by omega)]
  unfold rowX sIf
  rw [e]
  show sSeqX 0 (sExpr (eMut isL fApp (eVar 1) _)) sPass (rhoX a k) S = _
  refine (sSeqX_nx (ρ1 := rhoX a k) (S1 := S.set k (.lst (acc ++ [.tup [.str nm, z]]))) ?_ rfl).trans rfl
  unfold sExpr
  rw [e7]
  rfl
theorem rows_ok {T : Sb} {c f : Str} {z : P} {a k : Nat} {last : Str → XD → MS} : ∀ {rows : List (Str × List Nat × Str)}, (∀ r ∈ rows, (sbAt T c r.1).isSome = true ∧ (sbAt T c r.1 = some true → r.1 = c ∧ r.2.2 = f)) → ∀ {acc : List P} {S : Sto}, S[k]? = some (.lst acc) → acc.length + rows.length < 1000 →
    ∃ S', rowsX T rows last c (some ([f], [z])) (rhoX a k) S = last c (some ([f], [z])) (rhoX a k) S' ∧ S'[k]? = some (.lst (acc ++ (rows.filter fun r => sbAt T c r.1 == some true).map fun r => .tup [.str r.2.1, z])) ∧ S'.length = S.length ∧ ∀ j, j ≠ k → S'[j]? = S[j]?
  | [], _, acc, S, hk, hl => ⟨S, rfl, by simpa using hk, rfl, fun _ _ => rfl⟩
  | (B, nm, g) :: r, hr, acc, S, hk, hl => by
    obtain ⟨h1, h2⟩ := hr (B, nm, g) List.mem_cons_self
    have hr' := fun q hq => hr q (List.mem_cons_of_mem _ hq)
    rw [List.length_cons] at hl
    cases q : sbAt T c B with
    | none => rw [q] at h1; cases h1
    | some b =>
      cases b with
      | false =>
        obtain ⟨S', e, e1, e2, e3⟩ := rows_ok (last := last) (z := z) (a := a) (f := f) hr' hk (by omega)
        refine ⟨S', ?_, ?_, e2, e3⟩
        · show sSeqX 0 (rowX T B nm g c (some ([f], [z]))) (rowsX T r last c (some ([f], [z]))) (rhoX a k) S = _
          exact (sSeqX_nx (row_f q) rfl).trans e
        · rw [List.filter_cons, q, if_neg (by simp)]
          exact e1
      | true =>
        obtain ⟨hb, hg⟩ := h2 q
        dsimp only at hb hg
        subst hg
        have hk' : (S.set k (.lst (acc ++ [P.tup [.str nm, z]])))[k]? = some (.lst (acc ++ [P.tup [.str nm, z]])) := by
          have := (List.getElem?_eq_some_iff.mp hk).1
          rw [List.getElem?_set_self this]
        obtain ⟨S', e, e1, e2, e3⟩ := rows_ok (last := last) (z := z) (a := a) hr' hk' (by simp; omega)
        refine ⟨S', ?_, ?_, ?_, fun j hj => ?_⟩
        · show sSeqX 0 (rowX T B nm g c (some ([g], [z]))) (rowsX T r last c (some ([g], [z]))) (rhoX a k) S = _
          exact (sSeqX_nx (row_t q hb.symm hk (by omega)) rfl).trans e
        · rw [List.filter_cons, q, if_pos (by simp), List.map_cons, e1, List.append_assoc]
          rfl
        · rw [e2, List.length_set]
        · rw [e3 j hj, List.getElem?_set_ne (Ne.symm hj)]
theorem sort_ok {T : Sb} {rows : List (Str × List Nat × Str)} (a : Addr) (c : Str) (x : XD) (S : Sto) (d : Vl) (S' : Sto) (h : sortM T rows c x S = .ok d S') : endF S.length (bodyX T rows c x (some (.p (.raw a)) :: List.replicate 1 none) S) = .ok d S' := by
  unfold sortM at h
  split at h
  · rename_i f z
    split at h
    · rename_i r hr
      split at h
      · rename_i hc
        obtain ⟨h1, h2, hlen, h3⟩ := hc
        cases h
        have hrow : ∀ q ∈ rows, (sbAt T c q.1).isSome = true ∧ (sbAt T c q.1 = some true → q.1 = c ∧ q.2.2 = f) := fun q hq => ⟨List.all_eq_true.mp h3 q hq, fun e => by
          have : q ∈ rows.filter fun r => sbAt T c r.1 == some true := List.mem_filter.mpr ⟨hq, by rw [e]; rfl⟩
          rw [hr] at this
          have : q = r := by simpa using this
          rw [this]
          exact ⟨h1, h2⟩⟩
        have hk : (S ++ [Cell.lst []])[S.length]? = some (.lst []) := by simp
        obtain ⟨S2, e, e1, e2, e3⟩ := rows_ok (last := fun _ _ => sSeqX 0 lastX sPass) (z := z) (a := a) (f := f) hrow hk (by simp; omega)
        rw [hr] at e1
        have e1 : S2[S.length]? = some (.lst [.tup [.str r.2.1, z]]) := e1
        have b1 : bodyX T rows c (some ([f], [z])) (some (.p (.raw a)) :: List.replicate 1 none) S = rowsX T rows (fun _ _ => sSeqX 0 lastX sPass) c (some ([f], [z])) (rhoX a S.length) (S ++ [.lst []]) := by
          unfold bodyX
          exact sSeqX_nx (ρ := [some (.p (.raw a)), none]) (S := S) (m := sAsg (eLstC aNil) (gNm 1)) (ρ1 := rhoX a S.length) (S1 := S ++ [.lst []]) rfl rfl
        have l1 : lastX (rhoX a S.length) S2 = .ok (.rt (.p (.tup [.str r.2.1, z]))) S2 := by
          have r1 : rd S2 (.c S.length) = some (.lst [.tup [.str r.2.1, z]]) := by
            unfold rd
            dsimp only
            rw [e1]
          have v : eVar 1 (rhoX a S.length) S2 = .ok (.c S.length) S2 := rfl
          have t1 : tVal (eBin pEq (eCall pLen (aCons (eVar 1) aNil)) (eC (.int 1))) (rhoX a S.length) S2 = .ok true S2 := by
            have c1 : eCall pLen (aCons (eVar 1) aNil) (rhoX a S.length) S2 = .ok (.p (.int 1)) S2 := by
              unfold eCall
              have rs : rds S2 [.c S.length] = some [.lst [.tup [.str r.2.1, z]]] := by
                unfold rds
                rw [r1]
                rfl
              show call1 pLen [.c S.length] S2 = _
              unfold call1
              rw [rs]
              rfl
            unfold tVal eBin
            rw [c1]
            rfl
          have i1 : eItem (eVar 1) (eC (.int 0)) (rhoX a S.length) S2 = .ok (.p (.tup [.str r.2.1, z])) S2 := by
            have nvl : nv S2 (.c S.length) = .c S.length := by
              unfold nv
              dsimp only
              rw [e1]
            show ixV (nv S2 (.c S.length)) (.p (.int 0)) S2 = _
            rw [nvl]
            unfold ixV
            dsimp only
            rw [e1]
            show op2 pIx (.c S.length) (.p (.int 0)) S2 = _
            unfold op2
            rw [r1]
            rfl
          unfold lastX sRet eIfM
          rw [t1]
          show (eItem (eVar 1) (eC (.int 0)) (rhoX a S.length) S2).go _ _ = _
          rw [i1]
          rfl
        have b2 : sSeqX 0 lastX sPass (rhoX a S.length) S2 = .ok (.rt (.p (.tup [.str r.2.1, z]))) S2 := by
          unfold sSeqX
          rw [l1]
        rw [b1, e]
        show endF S.length (sSeqX 0 lastX sPass (rhoX a S.length) S2) = _
        rw [b2]
        have et : S2.take S.length = S := by
          apply List.ext_getElem?
          intro j
          rw [List.getElem?_take]
          by_cases hj : j < S.length
          · rw [if_pos hj, e3 j (by omega), List.getElem?_append_left hj]
          · rw [if_neg hj, List.getElem?_eq_none (by omega)]
        show Res.ok (Vl.p _) (S2.take S.length) = _
        rw [et]
      · cases h
    · cases h
  · cases h
theorem sort_nx {T : Sb} {rows : List (Str × List Nat × Str)} (c : Str) (x : XD) (S : Sto) (c' : Str) (x' : XD) (S' : Sto) : sortM T rows c x S ≠ .exc c' x' S' := by
  unfold sortM
  split
  · split
    · split <;> exact fun z => nomatch z
    · exact fun z => nomatch z
  · exact fun z => nomatch z
end Mir

namespace Mir
open PySem L2
mutual
def P.sameE : P → P → Nat → Bool
  | .non, .non, _ => true
  | .bl a, .bl b, _ => a == b
  | .int i, .int j, _ => i == j
  | .str x, .str y, _ => x == y
  | .lst xs, .lst ys, n + 1 => sameL xs ys n
  | .tup xs, .tup ys, n + 1 => sameL xs ys n
  | .dct [] [], .dct [] [], _ => true
  | _, _, _ => false
def sameL : List P → List P → Nat → Bool
  | [], [], _ => true
  | x :: xs, y :: ys, n => x.sameE y n && sameL xs ys n
  | _, _, _ => false
end
section
variable {X : Cx} {pins : List (Addr × Obj)} {σ : L2.St} {H : Hp} {s : Shared}
theorem dct0_at (I : L2.Inv X pins σ H s) {a b : Addr} (ha : H a = some (.dK [])) (hb : H b = some (.dK [])) (A : Around) (hu : A.units + 2 < cLine) : SeqAt.EqAt A s (.ref a) (.ref b) true := by
  by_cases e : a = b
  · subst e
    exact SeqAt.EqAt.same _
  · obtain ⟨_, na, va, ka, da⟩ := dk_of I.hok ha
    obtain ⟨_, nb, vb, kb, db⟩ := dk_of I.hok hb
    cases ka
    cases kb
    intro prog w E Q hq
    have key : ∀ {c : Addr}, s.heap.DictOf (mixKind X.prog X.w) c [] → s.heap.DictOf (intKind prog w) c [] := fun {c} h => by
      obtain ⟨o, es, ep, h1, h2, h3, h4, h5, h6⟩ := h
      have he : es = #[] := by
        have : es.toList = [] := by
          cases q : es.toList with
          | nil => rfl
          | cons e l =>
            rw [q] at h5
            cases h5
        exact Array.toList_eq_nil_iff.mp this
      subst he
      exact ⟨o, #[], ep, h1, h2, h3, (by intro e he; simp at he), .nil, by simp⟩
    exact SeqAt.EqIn.of_refs e (fun E Q hq => PySem.W.keq_eqIn na nb (key da) (key db) (by omega) (fun _ => .nil) hq) E Q hq
mutual
theorem same_at (I : L2.Inv X pins σ H s) : ∀ (x y : P) (n : Nat), x.sameE y n = true → ∀ (v1 v2 : V) (u1 u2 : Value), Rep X.K H x v1 → Rep X.K H y v2 → RelV v1 u1 → RelV v2 u2 → ∀ A : Around, A.units + 2 * n + 2 < cLine → SeqAt.EqAt A s u1 u2 true
  | .non, y, n, h, v1, v2, u1, u2, r1, r2, e1, e2, A, hu => by
    cases y with
    | non =>
      have r1 : v1 = .non := r1
      have r2 : v2 = .non := r2
      subst r1 r2
      have e1 : u1 = .none := e1
      have e2 : u2 = .none := e2
      subst e1 e2
      exact SeqAt.EqAt.same _
    | _ => cases h
  | .bl a, y, n, h, v1, v2, u1, u2, r1, r2, e1, e2, A, hu => by
    cases y with
    | bl b =>
      have r1 : v1 = .bl a := r1
      have r2 : v2 = .bl b := r2
      subst r1 r2
      have e1 : u1 = .bool a := e1
      have e2 : u2 = .bool b := e2
      subst e1 e2
      have h : (a == b) = true := h
      have := SeqAt.EqAt.bool_bool (A := A) (s := s) a b
      rwa [h] at this
    | _ => cases h
  | .int a, y, n, h, v1, v2, u1, u2, r1, r2, e1, e2, A, hu => by
    cases y with
    | int b =>
      have r1 : v1 = .int a := r1
      have r2 : v2 = .int b := r2
      subst r1 r2
      obtain ⟨t1, rfl⟩ := e1
      obtain ⟨t2, rfl⟩ := e2
      have h : (a == b) = true := h
      have := SeqAt.EqAt.int_int (A := A) (s := s) a t1 b t2
      rwa [h] at this
    | _ => cases h
  | .str a, y, n, h, v1, v2, u1, u2, r1, r2, e1, e2, A, hu => by
    cases y with
    | str b =>
      have r1 : v1 = .str (strOf a) := r1
      have r2 : v2 = .str (strOf b) := r2
      subst r1 r2
      obtain ⟨t1, rfl⟩ := e1
      obtain ⟨t2, rfl⟩ := e2
      have h : (a == b) = true := h
      have h : a = b := beq_iff_eq.mp h
      subst h
      have := SeqAt.EqAt.str_str (A := A) (s := s) (strOf a) t1 (strOf a) t2
      rwa [show (strOf a == strOf a) = true by simp] at this
    | _ => cases h
  | .lst xs, y, 0, h, v1, v2, u1, u2, r1, r2, e1, e2, A, hu => by cases y <;> cases h
  | .lst xs, y, n + 1, h, v1, v2, u1, u2, r1, r2, e1, e2, A, hu => by
    cases y with
    | lst ys =>
      obtain ⟨a, vs, rfl, h1, k1⟩ := r1
      obtain ⟨b, ws, rfl, h2, k2⟩ := r2
      have e1 : u1 = .ref a := e1
      have e2 : u2 = .ref b := e2
      subst e1 e2
      by_cases e : a = b
      · subst e
        exact SeqAt.EqAt.same _
      · obtain ⟨its, z1, l1, _⟩ := I.list (SqL.of h1)
        obtain ⟨jts, z2, l2, _⟩ := I.list (SqL.of h2)
        obtain ⟨hlen, hel⟩ := sameL_at I xs ys n h vs ws its jts k1 k2 z1 z2 A.in1 (by show A.units + 1 + 2 * n + 2 < cLine; omega)
        have := SeqAt.RcAt.lists (A := A) (e := fun _ => true) l1.isList l2.isList (by simpa using hlen) (by omega) (fun j q1 q2 => by
          have := hel j (by simpa using q1) (by simpa using q2)
          simpa using this)
        rw [show ((List.range its.toArray.size).all fun _ => true) = true by simp] at this
        exact SeqAt.EqAt.of_refs e this
    | _ => cases h
  | .tup xs, y, 0, h, v1, v2, u1, u2, r1, r2, e1, e2, A, hu => by cases y <;> cases h
  | .tup xs, y, n + 1, h, v1, v2, u1, u2, r1, r2, e1, e2, A, hu => by
    cases y with
    | tup ys =>
      obtain ⟨a, vs, rfl, h1, k1⟩ := r1
      obtain ⟨b, ws, rfl, h2, k2⟩ := r2
      have e1 : u1 = .ref a := e1
      have e2 : u2 = .ref b := e2
      subst e1 e2
      by_cases e : a = b
      · subst e
        exact SeqAt.EqAt.same _
      · obtain ⟨its, z1, l1, _⟩ := I.tuple h1
        obtain ⟨jts, z2, l2, _⟩ := I.tuple h2
        obtain ⟨hlen, hel⟩ := sameL_at I xs ys n h vs ws its jts k1 k2 z1 z2 A.in1 (by show A.units + 1 + 2 * n + 2 < cLine; omega)
        have := SeqAt.RcAt.tuples (A := A) (e := fun _ => true) (show s.heap.IsTuple a its.toArray from l1) (show s.heap.IsTuple b jts.toArray from l2) (by omega) (fun j q1 q2 => by
          have := hel j (by simpa using q1) (by simpa using q2)
          simpa using this)
        rw [show (((List.range (min its.toArray.size jts.toArray.size)).all fun _ => true) && its.toArray.size == jts.toArray.size) = true by simpa using hlen] at this
        exact SeqAt.EqAt.of_refs e this
    | _ => cases h
  | .dct (k :: ks) xs, y, n, h, v1, v2, u1, u2, r1, r2, e1, e2, A, hu => by cases y <;> first | cases h | (unfold P.sameE at h; cases h)
  | .dct [] (x :: xs), y, n, h, v1, v2, u1, u2, r1, r2, e1, e2, A, hu => by cases y <;> first | cases h | (unfold P.sameE at h; cases h)
  | .dct [] [], y, n, h, v1, v2, u1, u2, r1, r2, e1, e2, A, hu => by
    cases y with
    | dct ks xs =>
      cases ks with
      | cons k ks => cases xs <;> (unfold P.sameE at h; cases h)
      | nil =>
        cases xs with
        | cons x xs => unfold P.sameE at h; cases h
        | nil =>
          obtain ⟨a, kv1, rfl, h1, k1, _⟩ := r1
          obtain ⟨b, kv2, rfl, h2, k2, _⟩ := r2
          have q1 : kv1 = [] := by
            cases kv1 with
            | nil => rfl
            | cons q l => cases k1
          have q2 : kv2 = [] := by
            cases kv2 with
            | nil => rfl
            | cons q l => cases k2
          subst q1 q2
          have e1 : u1 = .ref a := e1
          have e2 : u2 = .ref b := e2
          subst e1 e2
          exact dct0_at I h1 h2 A (by omega)
    | _ => cases h
  | .obj _ _ _, y, n, h, _, _, _, _, _, _, _, _, _, _ => by cases y <;> cases h
  | .ty _, y, n, h, _, _, _, _, _, _, _, _, _, _ => by cases y <;> cases h
  | .glo _, y, n, h, _, _, _, _, _, _, _, _, _, _ => by cases y <;> cases h
  | .raw _, y, n, h, _, _, _, _, _, _, _, _, _, _ => by cases y <;> cases h
  | .rwp _ _, y, n, h, _, _, _, _, _, _, _, _, _, _ => by cases y <;> cases h
  | .scr _, y, n, h, _, _, _, _, _, _, _, _, _, _ => by cases y <;> cases h
theorem sameL_at (I : L2.Inv X pins σ H s) : ∀ (xs ys : List P) (n : Nat), sameL xs ys n = true → ∀ (vs ws : List V) (its jts : List Value), RepL X.K H xs vs → RepL X.K H ys ws → Vals vs its → Vals ws jts → ∀ A : Around, A.units + 2 * n + 2 < cLine →
    its.length = jts.length ∧ ∀ (j : Nat) (h1 : j < its.length) (h2 : j < jts.length), SeqAt.EqAt A s its[j] jts[j] true
  | [], [], n, h, vs, ws, its, jts, k1, k2, z1, z2, A, hu => by
    have k1 : vs = [] := k1
    have k2 : ws = [] := k2
    subst k1 k2
    cases z1
    cases z2
    exact ⟨rfl, fun j h1 _ => absurd h1 (Nat.not_lt_zero _)⟩
  | [], _ :: _, n, h, _, _, _, _, _, _, _, _, _, _ => by cases h
  | _ :: _, [], n, h, _, _, _, _, _, _, _, _, _, _ => by cases h
  | x :: xs, y :: ys, n, h, vs, ws, its, jts, k1, k2, z1, z2, A, hu => by
    have h : (x.sameE y n && sameL xs ys n) = true := h
    rw [Bool.and_eq_true] at h
    obtain ⟨v, r, rfl, a1, a2⟩ := k1
    obtain ⟨w, q, rfl, b1, b2⟩ := k2
    cases z1 with
    | cons c1 c2 =>
      cases z2 with
      | cons d1 d2 =>
        obtain ⟨hl, he⟩ := sameL_at I xs ys n h.2 r q _ _ a2 b2 c2 d2 A hu
        refine ⟨by simp [hl], fun j h1 h2 => ?_⟩
        cases j with
        | zero => exact same_at I x y n h.1 _ _ _ _ a1 b1 c1 d1 A hu
        | succ j => exact he j (by simpa using h1) (by simpa using h2)
end
end
def rNeXs (K : PySem.W.Frag) : R2 := fun x y H Q => ∃ (xs ys : List P), Rep K H (.lst xs) x ∧ Rep K H (.lst ys) y ∧ sameL xs ys 12 = true ∧ Q (.bl false) H
def rEqXs (K : PySem.W.Frag) : R2 := fun x y H Q => ∃ (xs ys : List P), Rep K H (.lst xs) x ∧ Rep K H (.lst ys) y ∧ sameL xs ys 12 = true ∧ Q (.bl true) H
section
variable {X : Cx} {W : WX} {a b c : Expr} {ma mb mc : ME} {pos : Pos}
theorem op_neXs (hu : X.A.units + 64 < cLine) : OpR X (compareOp .NotEq) (rNeXs X.K) := by
  intro pins s σ H x y v u Q I rx ry h
  obtain ⟨xs, ys, r1, r2, hs, q⟩ := h
  obtain ⟨a, vs, rfl, h1, k1⟩ := r1
  obtain ⟨b, ws, rfl, h2, k2⟩ := r2
  have rx : v = .ref a := rx
  have ry : u = .ref b := ry
  subst rx ry
  obtain ⟨its, z1, l1, _⟩ := I.list (SqL.of h1)
  obtain ⟨jts, z2, l2, _⟩ := I.list (SqL.of h2)
  obtain ⟨hlen, hel⟩ := sameL_at I xs ys 12 hs vs ws its jts k1 k2 z1 z2 X.A.in1 (by show X.A.units + 1 + 2 * 12 + 2 < cLine; omega)
  have := SeqAt.RcNeAt.lists (A := X.A) (e := fun _ => true) l1.isList l2.isList (by simpa using hlen) (by omega) (fun j q1 q2 => by
    have := hel j (by simpa using q1) (by simpa using q2)
    simpa using this)
  rw [show (!((List.range its.toArray.size).all fun _ => true)) = false by simp] at this
  exact this X.prog X.w _ _ ⟨.bl _, H, I, rfl, q⟩
theorem op_eqXs (hu : X.A.units + 64 < cLine) : OpR X (compareOp .Eq) (rEqXs X.K) := by
  intro pins s σ H x y v u Q I rx ry h
  obtain ⟨xs, ys, r1, r2, hs, q⟩ := h
  obtain ⟨a, vs, rfl, h1, k1⟩ := r1
  obtain ⟨b, ws, rfl, h2, k2⟩ := r2
  have rx : v = .ref a := rx
  have ry : u = .ref b := ry
  subst rx ry
  obtain ⟨its, z1, l1, _⟩ := I.list (SqL.of h1)
  obtain ⟨jts, z2, l2, _⟩ := I.list (SqL.of h2)
  obtain ⟨hlen, hel⟩ := sameL_at I xs ys 12 hs vs ws its jts k1 k2 z1 z2 X.A.in1 (by show X.A.units + 1 + 2 * 12 + 2 < cLine; omega)
  have := SeqAt.RcAt.lists (A := X.A) (e := fun _ => true) l1.isList l2.isList (by simpa using hlen) (by omega) (fun j q1 q2 => by
    have := hel j (by simpa using q1) (by simpa using q2)
    simpa using this)
  rw [show ((List.range its.toArray.size).all fun _ => true) = true by simp] at this
  exact this X.prog X.w _ _ ⟨.bl _, H, I, rfl, q⟩
def pNeX (x y : P) : Option P := match x, y with
  | .lst xs, .lst ys => if sameL xs ys 12 then some (.bl false) else pNe x y
  | _, _ => pNe x y
def pEqX (x y : P) : Option P := match x, y with
  | .lst xs, .lst ys => if sameL xs ys 12 then some (.bl true) else pEq x y
  | _, _ => pEq x y
theorem ok_neX {K : PySem.W.Frag} : BinOk K (fun x y H Q => rNeXs K x y H Q ∨ rNeD K x y H Q) pNeX := by
  intro io F S H x y v w z Q st rx ry e k
  have old : pNe x y = some z → rNeXs K v w H Q ∨ rNeD K v w H Q := fun e => .inr (ok_neD io F S H x y v w z Q st rx ry e k)
  unfold pNeX at e
  split at e
  · rename_i xs ys
    split at e
    · rename_i hs
      cases e
      exact .inl ⟨xs, ys, rx.now st.sub, ry.now st.sub, hs, k F H _ Nxt.refl st rfl⟩
    · exact old e
  · exact old e
theorem ok_eqX {K : PySem.W.Frag} : BinOk K (fun x y H Q => rEqXs K x y H Q ∨ rEqD K x y H Q) pEqX := by
  intro io F S H x y v w z Q st rx ry e k
  have old : pEq x y = some z → rEqXs K v w H Q ∨ rEqD K v w H Q := fun e => .inr (ok_eqD io F S H x y v w z Q st rx ry e k)
  unfold pEqX at e
  split at e
  · rename_i xs ys
    split at e
    · rename_i hs
      cases e
      exact .inl ⟨xs, ys, rx.now st.sub, ry.now st.sub, hs, k F H _ Nxt.refl st rfl⟩
    · exact old e
  · exact old e
theorem op_neX2 (hu : X.A.units + 64 < cLine) : OpR X (compareOp .NotEq) (fun x y H Q => rNeXs X.K x y H Q ∨ rNeD X.K x y H Q) := OpR.or (op_neXs hu) (op_neD hu)
theorem op_eqX2 (hu : X.A.units + 64 < cLine) : OpR X (compareOp .Eq) (fun x y H Q => rEqXs X.K x y H Q ∨ rEqD X.K x y H Q) := OpR.or (op_eqXs hu) (op_eqD hu)
theorem oe_eqX {k : Nat} (hr : Room k X.A) (ha : OE X W a ma) (hb : OE X W b mb) : OE X W (.Compare a [.Eq] [b] pos) (eBin pEqX ma mb) := oe_cmp (op_eqX2 hr.units) ok_eqX ha hb (nomark _)
theorem ot_neX {k : Nat} (hr : Room k X.A) (ha : OE X W a ma) (hb : OE X W b mb) : OT X W (.Compare a [.NotEq] [b] pos) (tVal (eBin pNeX ma mb)) := ot_cmp (op_neX2 hr.units) ok_neX ha hb (nomark _)
end
end Mir

namespace Law
open PySem L2 Mir
def isiCs : List Str := ["Rows", "Space", "Term"]
def exT : Sb := ([("InvalidKind", "NoAnswer", false), ("InvalidKind", "WrongName", false), ("InvalidKind", "WrongValue", true), ("InvalidNumber", "NoAnswer", false), ("InvalidNumber", "WrongName", false), ("InvalidNumber", "WrongValue", true), ("InvalidPremises", "NoAnswer", false), ("InvalidPremises", "WrongName", false), ("InvalidPremises", "WrongValue", true), ("InvalidSet", "NoAnswer", false), ("InvalidSet", "WrongName", false), ("InvalidSet", "WrongValue", true), ("InvalidText", "NoAnswer", false), ("InvalidText", "WrongName", false), ("InvalidText", "WrongValue", true), ("InvalidWord", "NoAnswer", false), ("InvalidWord", "WrongName", false), ("InvalidWord", "WrongValue", true), ("NotASpace", "NoAnswer", false), ("NotASpace", "WrongName", false), ("NotASpace", "WrongValue", true), ("NotATerm", "NoAnswer", false), ("NotATerm", "WrongName", false), ("NotATerm", "WrongValue", true), ("TooMany", "NoAnswer", true), ("TooMany", "WrongName", false), ("TooMany", "WrongValue", false), ("NoAnswer", "NoAnswer", true), ("WrongName", "WrongName", true), ("WrongValue", "WrongValue", true)] : Sb)
def exK : Sb := ([("InvalidKind", "InvalidKind", true), ("InvalidKind", "InvalidNumber", false), ("InvalidKind", "InvalidPremises", false), ("InvalidKind", "InvalidSet", false), ("InvalidKind", "InvalidWord", false), ("InvalidKind", "NotASpace", false), ("InvalidKind", "NotATerm", false), ("InvalidKind", "TooMany", false), ("InvalidNumber", "InvalidKind", false), ("InvalidNumber", "InvalidNumber", true), ("InvalidNumber", "InvalidPremises", false), ("InvalidNumber", "InvalidSet", false), ("InvalidNumber", "InvalidWord", false), ("InvalidNumber", "NotASpace", false), ("InvalidNumber", "NotATerm", false), ("InvalidNumber", "TooMany", false), ("InvalidPremises", "InvalidKind", false), ("InvalidPremises", "InvalidNumber", false), ("InvalidPremises", "InvalidPremises", true), ("InvalidPremises", "InvalidSet", false), ("InvalidPremises", "InvalidWord", false), ("InvalidPremises", "NotASpace", false), ("InvalidPremises", "NotATerm", false), ("InvalidPremises", "TooMany", false), ("InvalidSet", "InvalidKind", false), ("InvalidSet", "InvalidNumber", false), ("InvalidSet", "InvalidPremises", false), ("InvalidSet", "InvalidSet", true), ("InvalidSet", "InvalidWord", false), ("InvalidSet", "NotASpace", false)] : Sb) ++ ([("InvalidSet", "NotATerm", false), ("InvalidSet", "TooMany", false), ("InvalidText", "InvalidKind", false), ("InvalidText", "InvalidNumber", false), ("InvalidText", "InvalidPremises", false), ("InvalidText", "InvalidSet", false), ("InvalidText", "InvalidWord", false), ("InvalidText", "NotASpace", false), ("InvalidText", "NotATerm", false), ("InvalidText", "TooMany", false), ("InvalidWord", "InvalidKind", false), ("InvalidWord", "InvalidNumber", false), ("InvalidWord", "InvalidPremises", false), ("InvalidWord", "InvalidSet", false), ("InvalidWord", "InvalidWord", true), ("InvalidWord", "NotASpace", false), ("InvalidWord", "NotATerm", false), ("InvalidWord", "TooMany", false), ("NotASpace", "InvalidKind", false), ("NotASpace", "InvalidNumber", false), ("NotASpace", "InvalidPremises", false), ("NotASpace", "InvalidSet", false), ("NotASpace", "InvalidWord", false), ("NotASpace", "NotASpace", true), ("NotASpace", "NotATerm", false), ("NotASpace", "TooMany", false), ("NotATerm", "InvalidKind", false), ("NotATerm", "InvalidNumber", false), ("NotATerm", "InvalidPremises", false), ("NotATerm", "InvalidSet", false)] : Sb) ++ ([("NotATerm", "InvalidWord", false), ("NotATerm", "NotASpace", false), ("NotATerm", "NotATerm", true), ("NotATerm", "TooMany", false), ("TooMany", "InvalidKind", false), ("TooMany", "InvalidNumber", false), ("TooMany", "InvalidPremises", false), ("TooMany", "InvalidSet", false), ("TooMany", "InvalidWord", false), ("TooMany", "NotASpace", false), ("TooMany", "NotATerm", false), ("TooMany", "TooMany", true)] : Sb)
def lams : List (Str × Str) := [("_law_right", "_law_right.<locals>.<lambda>"), ("_law_listed", "_law_listed.<locals>.<lambda>")]

def b__law_dig : MS := (sSeq (sAsg (eBin pAdd (eItem (eVar 0) (eC (.int 2))) (eC (.int 1))) (gSubM (eVar 0) (eC (.int 2)))) (sSeq (sAsg (eCall pInt (aCons (eItem (eVar 0) (eC (.int 1))) aNil)) (gNm 2)) (sSeq (sAsg (eBin (pIC bMod fun i j => i % j) (eCall pInt (aCons (eBin pAdd (eBin pAdd (eBin pMul (eVar 2) (eBin pAdd (eBin (pIC bMod fun i j => i % j) (eCall pInt (aCons (eVar 2) aNil)) (eC (.int 29989))) (eC (.int 40013)))) (eBin pMul (eItem (eVar 0) (eC (.int 2))) (eC (.int 65521)))) (eC (.int 7))) aNil)) (eC (.int 2147483587))) (gSubM (eVar 0) (eC (.int 1)))) (sSeq (sIf (tVal (eBin (pIB fun i j => decide (j < i)) (eItem (eVar 0) (eC (.int 0))) (eC (.int 0)))) (sSeq (sAsg (eCall pDivmod (aCons (eItem (eVar 0) (eC (.int 0))) (aCons (eVar 1) aNil))) (gTp 2 (gCn (gSubM (eVar 0) (eC (.int 0))) (gCn (gNm 3) gNl)))) (sRet (eVar 3))) sPass) (sRet (eBin (pIC bMod fun i j => i % j) (eCall pInt (aCons (eBin (pIC bDiv fun i j => i / j) (eItem (eVar 0) (eC (.int 1))) (eC (.int 128))) aNil)) (eVar 1)))))))
def m__law_dig : MF := mkF 2 2 b__law_dig

def b__law_take : MS := (sRet (eItem (eVar 1) (eFn m__law_dig (aCons (eVar 0) (aCons (eCall pLen (aCons (eVar 1) aNil)) aNil)))))
def m__law_take : MF := mkF 2 0 b__law_take

def b__law_kinds : MS := (sRet (eLst (aCons (eC (.str [97, 108, 108])) (aCons (eC (.str [109, 101, 101, 116, 105, 110, 103])) (aCons (eC (.str [112, 105, 110, 110, 101, 100])) (aCons (eC (.str [98, 111, 116, 104])) (aCons (eC (.str [112, 97, 114, 116, 101, 100])) (aCons (eC (.str [112, 108, 97, 105, 110])) aNil))))))))
def m__law_kinds : MF := mkF 0 0 b__law_kinds

def b_Rows_number_of : MS := (sSeq (sIf (tVal (eNotInT (eVar 1) (eFld "Rows" "found" (eVar 0)))) (sSeq (sPutT (eCall pLen (aCons (eFld "Rows" "listed" (eVar 0)) aNil)) (eFld "Rows" "found" (eVar 0)) (eVar 1)) (sExpr (eMut isL fApp (eFld "Rows" "listed" (eVar 0)) (aCons (eVar 1) aNil)))) sPass) (sRet (eItemT (eFld "Rows" "found" (eVar 0)) (eVar 1))))
def m_Rows_number_of : MF := mkF 2 0 b_Rows_number_of

def b_read_into : MS := (sSeq (sPar3 2 3 4 (aCons (eC .non) (aCons (eLstC aNil) (aCons (eC (.int 0)) aNil)))) (sSeq (sWhile 1000 (tVal (eBin bLt (eVar 4) (eCall pLen (aCons (eVar 1) aNil)))) (sSeq (sAsg (eItem (eVar 1) (eVar 4)) (gNm 5)) (sIf (tAndM (tVal (eIsN (eVar 2))) (tVal (eBin pIn2 (eVar 5) (eC (.tup [(.str [120]), (.str [121]), (.str [122]), (.str [48]), (.str [49])]))))) (sPar 2 4 (aCons (eMeth "Rows" "number_of" m_Rows_number_of (eVar 0) (aCons (eTupT (aCons (eVar 5) aNil)) aNil)) (aCons (eBin pAdd (eVar 4) (eC (.int 1))) aNil))) (sIf (tAndM (tVal (eIsN (eVar 2))) (tAndM (tVal (eBin pIn2 (eVar 5) (eC (.tup [(.str [99]), (.str [105]), (.str [110])])))) (tVal (eBin pEq (eSl (eVar 1) (oYes (eBin pAdd (eVar 4) (eC (.int 1)))) (oYes (eBin pAdd (eVar 4) (eC (.int 2))))) (eC (.str [40])))))) (sSeq (sExpr (eMut isL fApp (eVar 3) (aCons (eTup (aCons (eVar 5) aNil)) aNil))) (sAsg (eBin pAdd (eVar 4) (eC (.int 2))) (gNm 4))) (sIf (tAndM (tVal (eIsN (eVar 2))) (tVal (eBin pEq (eVar 5) (eC (.str [40]))))) (sSeq (sExpr (eMut isL fApp (eVar 3) (aCons (eTup (aCons (eC (.str [40])) aNil)) aNil))) (sAsg (eBin pAdd (eVar 4) (eC (.int 1))) (gNm 4))) (sIf (tOrM (tVal (eIsN (eVar 2))) (tVal (eBin pEq (eVar 3) (eLst aNil)))) (sRet (eC .non)) (sIf (tAndM (tVal (eBin pEq (eVar 5) (eC (.str [41])))) (tVal (eBin pNe (eItem (eItem (eVar 3) (eUn pNeg (eC (.int 1)))) (eC (.int 0))) (eC (.str [40]))))) (sPar 2 4 (aCons (eMeth "Rows" "number_of" m_Rows_number_of (eVar 0) (aCons (eTupT (aStar (eMut isL fPop (eVar 3) aNil) (aCons (eVar 2) aNil))) aNil)) (aCons (eBin pAdd (eVar 4) (eC (.int 1))) aNil))) (sIf (tAndM (tVal (eBin pEq (eItem (eVar 3) (eUn pNeg (eC (.int 1)))) (eTup (aCons (eC (.str [40])) aNil)))) (tVal (eBin pIn2 (eSl (eVar 1) (oYes (eVar 4)) (oYes (eBin pAdd (eVar 4) (eC (.int 3))))) (eTup (aCons (eC (.str [32, 38, 32])) (aCons (eC (.str [32, 124, 32])) aNil)))))) (sSeq (sAsg (eTup (aCons (eItem (eVar 1) (eBin pAdd (eVar 4) (eC (.int 1)))) (aCons (eVar 2) aNil))) (gSubM (eVar 3) (eUn pNeg (eC (.int 1))))) (sPar 2 4 (aCons (eC .non) (aCons (eBin pAdd (eVar 4) (eC (.int 3))) aNil)))) (sRet (eC .non)))))))))) (sRet (eIfM (tVal (eBin pEq (eVar 3) (eLst aNil))) (eVar 2) (eC .non)))))
def m_read_into : MF := mkF 2 4 b_read_into

def b_Rows___init__ : MS := (sParG 2 (aCons (eLstR 2 (eVar 0)) (aCons (eDctR 1 (eVar 0)) aNil)) (gCn (gFldM "Rows" "listed" (eVar 0)) (gCn (gFldM "Rows" "found" (eVar 0)) gNl)))
def m_Rows___init__ : MF := mkF 1 0 b_Rows___init__

def b_is_text : MS := (sRet (eAndM (eIsi isiCs (eVar 0) (eC (.ty "str"))) (eAndM (eBin bLe (eCall pLen (aCons (eVar 0) aNil)) (eC (.int 300))) (eNotN (eFn m_read_into (aCons (eMakeR 2 "Rows" m_Rows___init__) (aCons (eVar 0) aNil)))))))
def m_is_text : MF := mkF 1 0 b_is_text

def b_Term___init__ : MS := (sSeq (sIf (tNotM (tVal (eFn m_is_text (aCons (eVar 1) aNil)))) (sRaise "InvalidText" "given" (aCons (eVar 1) aNil)) sPass) (sAsg (eVar 1) (gFldM "Term" "told" (eVar 0))))
def m_Term___init__ : MF := mkF 2 0 b_Term___init__

def b__law_term (self_ : MF) : MS := (sSeq (sAsg (eFn m__law_dig (aCons (eVar 0) (aCons (eC (.int 9)) aNil))) (gNm 4)) (sSeq (sIf (tOrM (tVal (eBin pEq (eVar 3) (eC (.int 0)))) (tVal (eBin pEq (eVar 4) (eC (.int 0))))) (sRet (eIfM (tVal (eBin pEq (eFn m__law_dig (aCons (eVar 0) (aCons (eC (.int 6)) aNil))) (eC (.int 0)))) (eFn m__law_take (aCons (eVar 0) (aCons (eBin pAdd (eVar 1) (eLst (aCons (eC (.str [48])) (aCons (eC (.str [49])) aNil)))) aNil))) (eFn m__law_take (aCons (eVar 0) (aCons (eVar 1) aNil))))) sPass) (sSeq (sIf (tAndM (tVal (eBin bLt (eVar 4) (eC (.int 4)))) (tVal (eBin (pIB fun i j => decide (j < i)) (eVar 2) (eC (.int 0))))) (sRet (eBin pAdd (eBin pAdd (eBin pAdd (eFn m__law_take (aCons (eVar 0) (aCons (eLst (aCons (eC (.str [99])) (aCons (eC (.str [105])) aNil))) aNil))) (eC (.str [40]))) (eFn self_ (aCons (eVar 0) (aCons (eVar 1) (aCons (eBin (pI fun i j => i - j) (eVar 2) (eC (.int 1))) (aCons (eBin (pI fun i j => i - j) (eVar 3) (eC (.int 1))) aNil)))))) (eC (.str [41])))) sPass) (sSeq (sIf (tVal (eBin bLt (eVar 4) (eC (.int 6)))) (sRet (eBin pAdd (eBin pAdd (eC (.str [110, 40])) (eFn self_ (aCons (eVar 0) (aCons (eVar 1) (aCons (eVar 2) (aCons (eBin (pI fun i j => i - j) (eVar 3) (eC (.int 1))) aNil)))))) (eC (.str [41])))) sPass) (sSeq (sAsg (eFn self_ (aCons (eVar 0) (aCons (eVar 1) (aCons (eBin (pIC bDiv fun i j => i / j) (eVar 2) (eC (.int 2))) (aCons (eBin (pI fun i j => i - j) (eVar 3) (eC (.int 1))) aNil))))) (gNm 5)) (sSeq (sAsg (eBin pAdd (eMthT "str" pCount (eVar 5) (aCons (eC (.str [99])) aNil)) (eMthT "str" pCount (eVar 5) (aCons (eC (.str [105])) aNil))) (gNm 6)) (sSeq (sAsg (eFn m__law_take (aCons (eVar 0) (aCons (eLst (aCons (eC (.str [32, 38, 32])) (aCons (eC (.str [32, 124, 32])) aNil))) aNil))) (gNm 7)) (sRet (eBin pAdd (eBin pAdd (eBin pAdd (eBin pAdd (eC (.str [40])) (eVar 5)) (eVar 7)) (eFn self_ (aCons (eVar 0) (aCons (eVar 1) (aCons (eBin (pI fun i j => i - j) (eVar 2) (eVar 6)) (aCons (eBin (pI fun i j => i - j) (eVar 3) (eC (.int 1))) aNil)))))) (eC (.str [41])))))))))))
def m__law_term : Nat → MF
  | 0 => fun _ _ => .bad
  | n + 1 => mkF 4 4 (b__law_term (m__law_term n))
def k__law_sort : List (Str × List Nat × Str) := [("NotATerm", [78, 111, 116, 65, 84, 101, 114, 109], "given"), ("NotASpace", [78, 111, 116, 65, 83, 112, 97, 99, 101], "given"), ("InvalidKind", [73, 110, 118, 97, 108, 105, 100, 75, 105, 110, 100], "given"), ("InvalidSet", [73, 110, 118, 97, 108, 105, 100, 83, 101, 116], "given"), ("InvalidWord", [73, 110, 118, 97, 108, 105, 100, 87, 111, 114, 100], "given"), ("InvalidNumber", [73, 110, 118, 97, 108, 105, 100, 78, 117, 109, 98, 101, 114], "given"), ("InvalidPremises", [73, 110, 118, 97, 108, 105, 100, 80, 114, 101, 109, 105, 115, 101, 115], "index"), ("TooMany", [84, 111, 111, 77, 97, 110, 121], "limit")]
def m__law_sort : MSx := sortM exK k__law_sort

def hs__law_caught : List (Str × Option Nat × MX) := [("WrongValue", some 1, (fun c_ x_ => sRet (fun _ S_ => m__law_sort c_ x_ S_))), ("WrongName", some 1, (fun c_ x_ => sRet (fun _ S_ => m__law_sort c_ x_ S_))), ("NoAnswer", some 1, (fun c_ x_ => sRet (fun _ S_ => m__law_sort c_ x_ S_)))]
def mr__law_caught : MS := (sRet (eTup (aCons (eC (.str [108, 101, 116])) (aCons (eVar 2) aNil))))
def m__law_caught (j : Sto → Res Vl) : Sto → Res Vl := mJob 3 exT (some 2) hs__law_caught mr__law_caught j

def b_check_term : MS := (sIf (tNotM (tVal (eIsi isiCs (eVar 0) (eC (.glo "Term"))))) (sRaise "NotATerm" "given" (aCons (eVar 0) aNil)) sPass)
def m_check_term : MF := mkF 1 0 b_check_term

def b_check_kind : MS := (sIf (tOrM (tNotM (tVal (eIsi isiCs (eVar 0) (eC (.ty "str"))))) (tVal (eBin pNotIn2 (eVar 0) (eC (.tup [(.str [97, 108, 108]), (.str [109, 101, 101, 116, 105, 110, 103]), (.str [112, 105, 110, 110, 101, 100]), (.str [98, 111, 116, 104]), (.str [112, 97, 114, 116, 101, 100]), (.str [112, 108, 97, 105, 110])]))))) (sRaise "InvalidKind" "given" (aCons (eVar 0) aNil)) sPass)
def m_check_kind : MF := mkF 1 0 b_check_kind

def b_is_integer : MS := (sRet (eAndM (eIsi isiCs (eVar 0) (eC (.ty "int"))) (eNotM (eIsi isiCs (eVar 0) (eC (.ty "bool"))))))
def m_is_integer : MF := mkF 1 0 b_is_integer

def b_is_between : MS := (sRet (eAndM (eFn m_is_integer (aCons (eVar 0) aNil)) (eChn bLe bLe (eVar 1) (eVar 0) (eVar 2))))
def m_is_between : MF := mkF 3 0 b_is_between

def b_check_listed : MS := (sIf (tNotM (tVal (eFn m_is_between (aCons (eVar 0) (aCons (eC (.int 1)) (aCons (eC (.int 4)) aNil)))))) (sRaise "InvalidNumber" "given" (aCons (eVar 0) aNil)) sPass)
def m_check_listed : MF := mkF 1 0 b_check_listed

def b_indexes_of : MS := (sRet (eLc (itRange1 (eUn pBits (eVar 0))) [1] (gNm 1) (tVal (eBin pEq (eBin (pI fun i j => Builtin.bitAnd i j) (eBin (pIC bShr fun i j => i / 2 ^ j.toNat) (eVar 0) (eVar 1)) (eC (.int 1))) (eC (.int 1)))) (eVar 1)))
def m_indexes_of : MF := mkF 1 1 b_indexes_of

def b_is_seeing : MS := (sSeq (sFor (itEnum (eVar 0)) (gTp 2 (gCn (gNm 1) (gCn (gNm 2) gNl))) (sIf (tOrM (tVal (eBin pEq (eBin (pI fun i j => Builtin.bitAnd i j) (eBin (pIC bShr fun i j => i / 2 ^ j.toNat) (eVar 2) (eVar 1)) (eC (.int 1))) (eC (.int 0)))) (tVal (eCall pAny (aCons (eLc (itOf (eFn m_indexes_of (aCons (eVar 2) aNil))) [3] (gNm 3) tsYes (eBin pNe (eBin (pI fun i j => Builtin.bitAnd i j) (eItem (eVar 0) (eVar 3)) (eUn pInv (eVar 2))) (eC (.int 0)))) aNil)))) (sRet (eC (.bl false))) sPass)) (sRet (eC (.bl true))))
def m_is_seeing : MF := mkF 1 3 b_is_seeing

def b_is_meeting : MS := (sSeq (sFor (itOf (eVar 0)) (gNm 1) (sSeq (sAsg (eFn m_indexes_of (aCons (eVar 1) aNil)) (gNm 2)) (sIf (tNotM (tVal (eCall pAll (aCons (eLc2 (itOf (eVar 2)) [3, 4] (gNm 3) tsYes (itOf (eVar 2)) [4] (gNm 4) tsYes (eBin pNe (eBin (pI fun i j => Builtin.bitAnd i j) (eItem (eVar 0) (eVar 3)) (eItem (eVar 0) (eVar 4))) (eC (.int 0)))) aNil)))) (sRet (eC (.bl false))) sPass))) (sRet (eC (.bl true))))
def m_is_meeting : MF := mkF 1 4 b_is_meeting

def b_is_pinned : MS := (sSeq (sAsg (eCall pSum (aCons (eLc (itEnum (eVar 0)) [3, 2] (gTp 2 (gCn (gNm 3) (gCn (gNm 2) gNl))) (tVal (eBin pEq (eVar 2) (eBin (pIC bPow fun i j => i * 2 ^ j.toNat) (eC (.int 1)) (eVar 3)))) (eBin (pIC bPow fun i j => i * 2 ^ j.toNat) (eC (.int 1)) (eVar 3))) aNil)) (gNm 1)) (sRet (eCall pAll (aCons (eLc (itOf (eVar 0)) [2] (gNm 2) tsYes (eBin pNe (eBin (pI fun i j => Builtin.bitAnd i j) (eVar 2) (eVar 1)) (eC (.int 0)))) aNil))))
def m_is_pinned : MF := mkF 1 3 b_is_pinned

def b_is_parted : MS := (sRet (eCall pAll (aCons (eLc2 (itEnum (eVar 0)) [2, 3, 1] (gTp 2 (gCn (gNm 2) (gCn (gNm 3) gNl))) tsYes (itOf (eFn m_indexes_of (aCons (eVar 3) aNil))) [1] (gNm 1) tsYes (eBin pEq (eBin (pI fun i j => Builtin.bitAnd i j) (eBin (pIC bShr fun i j => i / 2 ^ j.toNat) (eItem (eVar 0) (eVar 1)) (eVar 2)) (eC (.int 1))) (eC (.int 1)))) aNil)))
def m_is_parted : MF := mkF 1 3 b_is_parted

def b_is_kind : MS := (sSeq (sIf (tVal (eBin pEq (eVar 1) (eC (.str [97, 108, 108])))) (sRet (eC (.bl true))) sPass) (sSeq (sIf (tVal (eBin pIn2 (eVar 1) (eTup (aCons (eC (.str [109, 101, 101, 116, 105, 110, 103])) (aCons (eC (.str [112, 105, 110, 110, 101, 100])) aNil))))) (sRet (eIfM (tVal (eBin pEq (eVar 1) (eC (.str [109, 101, 101, 116, 105, 110, 103])))) (eFn m_is_meeting (aCons (eVar 0) aNil)) (eFn m_is_pinned (aCons (eVar 0) aNil)))) sPass) (sSeq (sIf (tVal (eBin pEq (eVar 1) (eC (.str [98, 111, 116, 104])))) (sRet (eAndM (eFn m_is_meeting (aCons (eVar 0) aNil)) (eFn m_is_pinned (aCons (eVar 0) aNil)))) sPass) (sRet (eIfM (tVal (eBin pEq (eVar 1) (eC (.str [112, 97, 114, 116, 101, 100])))) (eFn m_is_parted (aCons (eVar 0) aNil)) (eCall pAll (aCons (eLc (itEnum (eVar 0)) [2, 3] (gTp 2 (gCn (gNm 2) (gCn (gNm 3) gNl))) tsYes (eBin pEq (eVar 3) (eBin (pIC bPow fun i j => i * 2 ^ j.toNat) (eC (.int 1)) (eVar 2)))) aNil)))))))
def m_is_kind : MF := mkF 2 2 b_is_kind

def b_all_near : MS := (sSeq (sAsg (eLst (aCons (eLst aNil) aNil)) (gNm 2)) (sSeq (sFor (itRange1 (eVar 0)) (gNm 3) (sAsg (eLc2 (itOf (eVar 2)) [4, 5] (gNm 4) tsYes (itRange1 (eBin (pIC bPow fun i j => i * 2 ^ j.toNat) (eC (.int 1)) (eVar 0))) [5] (gNm 5) (tVal (eBin pEq (eBin (pI fun i j => Builtin.bitAnd i j) (eBin (pIC bShr fun i j => i / 2 ^ j.toNat) (eVar 5) (eVar 3)) (eC (.int 1))) (eC (.int 1)))) (eLst (aStar (eVar 4) (aCons (eVar 5) aNil)))) (gNm 2))) (sRet (eLc (itOf (eVar 2)) [4] (gNm 4) (tAndM (tVal (eFn m_is_seeing (aCons (eVar 4) aNil))) (tVal (eFn m_is_kind (aCons (eVar 4) (aCons (eVar 1) aNil))))) (eVar 4)))))
def m_all_near : MF := mkF 2 4 b_all_near

def b_all_lots : MS := (sSeq (sAsg (eLst (aCons (eLst aNil) aNil)) (gNm 2)) (sSeq (sFor (itRange1 (eVar 1)) (gNm 3) (sAsg (eLc2 (itOf (eVar 2)) [4, 5] (gNm 4) tsYes (itRange1 (eBin (pIC bPow fun i j => i * 2 ^ j.toNat) (eC (.int 1)) (eVar 0))) [5] (gNm 5) tsYes (eLst (aStar (eVar 4) (aCons (eVar 5) aNil)))) (gNm 2))) (sRet (eVar 2))))
def m_all_lots : MF := mkF 2 4 b_all_lots

def b_all_bits : MS := (sRet (eBin (pI fun i j => i - j) (eBin (pIC bPow fun i j => i * 2 ^ j.toNat) (eC (.int 1)) (eCall pLen (aCons (eVar 0) aNil))) (eC (.int 1))))
def m_all_bits : MF := mkF 1 0 b_all_bits

def b_closure_of : MS := (sRet (eCall pSum (aCons (eLc (itEnum (eVar 0)) [2, 3] (gTp 2 (gCn (gNm 2) (gCn (gNm 3) gNl))) (tVal (eBin pNe (eBin (pI fun i j => Builtin.bitAnd i j) (eVar 3) (eVar 1)) (eC (.int 0)))) (eBin (pIC bPow fun i j => i * 2 ^ j.toNat) (eC (.int 1)) (eVar 2))) aNil)))
def m_closure_of : MF := mkF 2 2 b_closure_of

def b_inside_of : MS := (sRet (eCall pSum (aCons (eLc (itEnum (eVar 0)) [2, 3] (gTp 2 (gCn (gNm 2) (gCn (gNm 3) gNl))) (tVal (eBin pEq (eBin (pI fun i j => Builtin.bitAnd i j) (eVar 3) (eUn pInv (eVar 1))) (eC (.int 0)))) (eBin (pIC bPow fun i j => i * 2 ^ j.toNat) (eC (.int 1)) (eVar 2))) aNil)))
def m_inside_of : MF := mkF 2 2 b_inside_of

def b_bits_of_row : MS := (sSeq (sIf (tVal (eBin pIn2 (eVar 0) (eC (.tup [(.str [120]), (.str [121]), (.str [122])])))) (sRet (eItem (eVar 3) (eTIdx [(.str [120]), (.str [121]), (.str [122])] (eVar 0)))) sPass) (sSeq (sIf (tVal (eBin pIn2 (eVar 0) (eTup (aCons (eC (.str [48])) (aCons (eC (.str [49])) aNil))))) (sRet (eIfM (tVal (eBin pEq (eVar 0) (eC (.str [49])))) (eFn m_all_bits (aCons (eVar 2) aNil)) (eC (.int 0)))) sPass) (sSeq (sIf (tVal (eBin pEq (eVar 0) (eC (.str [99])))) (sRet (eFn m_closure_of (aCons (eVar 2) (aCons (eItem (eVar 1) (eC (.int 0))) aNil)))) sPass) (sSeq (sIf (tVal (eBin pEq (eVar 0) (eC (.str [105])))) (sRet (eFn m_inside_of (aCons (eVar 2) (aCons (eItem (eVar 1) (eC (.int 0))) aNil)))) sPass) (sSeq (sIf (tVal (eBin pEq (eVar 0) (eC (.str [110])))) (sRet (eBin (pI fun i j => Builtin.bitAnd i j) (eFn m_all_bits (aCons (eVar 2) aNil)) (eUn pInv (eItem (eVar 1) (eC (.int 0)))))) sPass) (sRet (eIfM (tVal (eBin pEq (eVar 0) (eC (.str [38])))) (eBin (pI fun i j => Builtin.bitAnd i j) (eItem (eVar 1) (eC (.int 0))) (eItem (eVar 1) (eC (.int 1)))) (eBin (pI fun i j => Builtin.bitOr i j) (eItem (eVar 1) (eC (.int 0))) (eItem (eVar 1) (eC (.int 1)))))))))))
def m_bits_of_row : MF := mkF 4 0 b_bits_of_row

def b_bits_at : MS := (sSeq (sAsg (eLstC aNil) (gNm 3)) (sSeq (sFor (itOf (eVar 0)) (gNm 4) (sSeq (sAsg (eLc (itOf (eSl (eVar 4) (oYes (eC (.int 1))) oNo)) [6] (gNm 6) tsYes (eItem (eVar 3) (eVar 6))) (gNm 5)) (sExpr (eMut isL fApp (eVar 3) (aCons (eFn m_bits_of_row (aCons (eItem (eVar 4) (eC (.int 0))) (aCons (eVar 5) (aCons (eVar 1) (aCons (eVar 2) aNil))))) aNil))))) (sRet (eVar 3))))
def m_bits_at : MF := mkF 3 4 b_bits_at

def b_is_parted_by : MS := (sSeq (sAsg (eMakeR 2 "Rows" m_Rows___init__) (gNm 3)) (sSeq (sAsg (eLc (itOf (eVar 2)) [9] (gNm 9) tsYes (eFn m_read_into (aCons (eVar 3) (aCons (eVar 9) aNil)))) (gTpL 2 (gCn (gNm 6) (gCn (gNm 7) gNl)))) (sSeq (sAsg (eCall pMax (aCons (eLst (aCons (eC (.int 0)) (aStar (eLc (itOf (eC (.tup [(.str [120]), (.str [121]), (.str [122])]))) [11] (gNm 11) (tVal (eBin pIn2 (eVar 11) (eMthT "str" pJoin (eC (.str [])) (aCons (eVar 2) aNil)))) (eBin pAdd (eTIdx [(.str [120]), (.str [121]), (.str [122])] (eVar 11)) (eC (.int 1)))) aNil))) aNil)) (gNm 4)) (sSeq (sFor (itOf (eFn m_all_near (aCons (eVar 0) (aCons (eVar 1) aNil)))) (gNm 5) (sFor (itOf (eFn m_all_lots (aCons (eVar 0) (aCons (eVar 4) aNil)))) (gNm 8) (sSeq (sAsg (eFn m_bits_at (aCons (eFld "Rows" "listed" (eVar 3)) (aCons (eVar 5) (aCons (eVar 8) aNil)))) (gNm 10)) (sIf (tVal (eBin pNe (eItem (eVar 10) (eVar 6)) (eItem (eVar 10) (eVar 7)))) (sRet (eC (.bl true))) sPass)))) (sRet (eC (.bl false)))))))
def m_is_parted_by : MF := mkF 3 9 b_is_parted_by

def b_least_points : MS := (sSeq (sExpr (eFn m_check_term (aCons (eVar 0) aNil))) (sSeq (sExpr (eFn m_check_term (aCons (eVar 1) aNil))) (sSeq (sExpr (eFn m_check_kind (aCons (eVar 2) aNil))) (sSeq (sExpr (eFn m_check_listed (aCons (eVar 3) aNil))) (sSeq (sFor (itRange2 (eC (.int 1)) (eBin pAdd (eVar 3) (eC (.int 1)))) (gNm 4) (sIf (tVal (eFn m_is_parted_by (aCons (eVar 4) (aCons (eVar 2) (aCons (eTup (aCons (eFld "Term" "told" (eVar 0)) (aCons (eFld "Term" "told" (eVar 1)) aNil))) aNil))))) (sRet (eVar 4)) sPass)) (sRet (eC .non)))))))
def m_least_points : MF := mkF 4 1 b_least_points

def b_check_both : MS := (sSeq (sExpr (eFn m_check_listed (aCons (eVar 0) aNil))) (sExpr (eFn m_check_kind (aCons (eVar 1) aNil))))
def m_check_both : MF := mkF 2 0 b_check_both

def b_text_of : MS := (sSeq (sAsg (eLstC aNil) (gNm 2)) (sSeq (sFor (itZip (eVar 0) (eVar 1)) (gTp 2 (gCn (gNm 3) (gCn (gNm 4) gNl))) (sSeq (sAsg (eMthT "str" pJoin (eC (.str [32])) (aCons (eLc (itOf (eFn m_indexes_of (aCons (eVar 4) aNil))) [6] (gNm 6) tsYes (eItem (eVar 0) (eVar 6))) aNil)) (gNm 5)) (sExpr (eMut isL fApp (eVar 2) (aCons (eJoin (jFmt (eVar 3) (jTxt [58, 32] (jFmt (eVar 5) jNil)))) aNil))))) (sRet (eMthT "str" pJoin (eC (.str [10])) (aCons (eVar 2) aNil)))))
def m_text_of : MF := mkF 2 5 b_text_of

def b_listed_texts : MS := (sRet (eCall pSorted (aCons (eLc (itOf (eFn m_all_near (aCons (eVar 0) (aCons (eVar 1) aNil)))) [2] (gNm 2) tsYes (eFn m_text_of (aCons (eSl (eC (.tup [(.str [97]), (.str [98]), (.str [99]), (.str [100])])) oNo (oYes (eVar 0))) (aCons (eVar 2) aNil)))) aNil)))
def m_listed_texts : MF := mkF 2 1 b_listed_texts

def b_is_name : MS := (sSeq (sAsg (eVar 0) (gNm 1)) (sSeq (sIf (tOrM (tNotM (tVal (eIsi isiCs (eVar 0) (eC (.ty "str"))))) (tOrM (tNotM (tVal (eChn bLe bLe (eC (.int 1)) (eCall pLen (aCons (eVar 0) aNil)) (eC (.int 8))))) (tVal (eBin pNotIn2 (eItem (eVar 0) (eC (.int 0))) (eC (.str [97, 98, 99, 100, 101, 102, 103, 104, 105, 106, 107, 108, 109, 110, 111, 112, 113, 114, 115, 116, 117, 118, 119, 120, 121, 122])))))) (sRet (eC (.bl false))) sPass) (sRet (eCall pAll (aCons (eLc (itOf (eVar 1)) [2] (gNm 2) tsYes (eOrM (eBin pIn2 (eVar 2) (eC (.str [97, 98, 99, 100, 101, 102, 103, 104, 105, 106, 107, 108, 109, 110, 111, 112, 113, 114, 115, 116, 117, 118, 119, 120, 121, 122]))) (eBin pIn2 (eVar 2) (eC (.str [48, 49, 50, 51, 52, 53, 54, 55, 56, 57]))))) aNil)))))
def m_is_name : MF := mkF 1 2 b_is_name

def b_read_row : MS := (sSeq (sAsg (eMthT "str" pPartition (eVar 0) (aCons (eC (.str [58, 32])) aNil)) (gTp 3 (gCn (gNm 2) (gCn (gNm 3) (gCn (gNm 4) gNl))))) (sSeq (sAsg (eMthT "str" pSplit (eVar 4) (aCons (eC (.str [32])) aNil)) (gNm 1)) (sRet (eIfM (tAndM (tVal (eBin pNe (eVar 3) (eC (.str [])))) (tVal (eFn m_is_name (aCons (eVar 2) aNil)))) (eTup (aCons (eVar 2) (aCons (eVar 1) aNil))) (eC .non)))))
def m_read_row : MF := mkF 1 4 b_read_row

def b_is_ordered : MS := (sSeq (sAsg (eLc (itOf (eVar 1)) [3] (gNm 3) tsYes (eIfM (tVal (eBin pIn2 (eVar 3) (eVar 0))) (eMthT "list" pIndex (eVar 0) (aCons (eVar 3) aNil)) (eUn pNeg (eC (.int 1))))) (gNm 2)) (sRet (eAndM (eCall pAll (aCons (eLc (itOf (eVar 2)) [4] (gNm 4) tsYes (eBin (pIB fun i j => decide (j ≤ i)) (eVar 4) (eC (.int 0)))) aNil)) (eCall pAll (aCons (eLc (itRange2 (eC (.int 1)) (eCall pLen (aCons (eVar 2) aNil))) [4] (gNm 4) tsYes (eBin bLt (eItem (eVar 2) (eBin (pI fun i j => i - j) (eVar 4) (eC (.int 1)))) (eItem (eVar 2) (eVar 4)))) aNil)))))
def m_is_ordered : MF := mkF 2 3 b_is_ordered

def b_bits_of : MS := (sRet (eCall pSum (aCons (eLc (itOf (eVar 1)) [2] (gNm 2) tsYes (eBin (pIC bPow fun i j => i * 2 ^ j.toNat) (eC (.int 1)) (eMthT "list" pIndex (eVar 0) (aCons (eVar 2) aNil)))) aNil)))
def m_bits_of : MF := mkF 2 1 b_bits_of

def b_read_space : MS := (sSeq (sAsg (eLc (itOf (eMthT "str" pSplit (eVar 0) (aCons (eC (.str [10])) aNil))) [4] (gNm 4) tsYes (eFn m_read_row (aCons (eVar 4) aNil))) (gNm 1)) (sSeq (sIf (tOrM (tVal (eBin pIn2 (eC .non) (eVar 1))) (tVal (eBin (pIB fun i j => decide (j < i)) (eCall pLen (aCons (eVar 1) aNil)) (eC (.int 256))))) (sRet (eC .non)) sPass) (sSeq (sAsg (eLc (itOf (eVar 1)) [5, 3] (gTp 2 (gCn (gNm 5) (gCn (gNm 3) gNl))) tsYes (eVar 5)) (gNm 2)) (sSeq (sIf (tOrM (tVal (eBin pNe (eCall pLen (aCons (eCall pDictP (aCons (eVar 1) aNil)) aNil)) (eCall pLen (aCons (eVar 1) aNil)))) (tNotM (tVal (eCall pAll (aCons (eLc (itOf (eVar 1)) [5, 3] (gTp 2 (gCn (gNm 5) (gCn (gNm 3) gNl))) tsYes (eFn m_is_ordered (aCons (eVar 2) (aCons (eVar 3) aNil)))) aNil))))) (sRet (eC .non)) sPass) (sSeq (sAsg (eLc (itOf (eVar 1)) [5, 6] (gTp 2 (gCn (gNm 5) (gCn (gNm 6) gNl))) tsYes (eFn m_bits_of (aCons (eVar 2) (aCons (eVar 6) aNil)))) (gNm 3)) (sRet (eIfM (tVal (eFn m_is_seeing (aCons (eVar 3) aNil))) (eTup (aCons (eVar 2) (aCons (eVar 3) aNil))) (eC .non))))))))
def m_read_space : MF := mkF 1 6 b_read_space

def b_Space___init__ : MS := (sSeq (sAsg (eIfM (tVal (eIsi isiCs (eVar 1) (eC (.ty "str")))) (eFn m_read_space (aCons (eVar 1) aNil)) (eC .non)) (gNm 2)) (sSeq (sIf (tVal (eIsN (eVar 2))) (sRaise "InvalidText" "given" (aCons (eVar 1) aNil)) sPass) (sParG 3 (aCons (eVar 1) (aCons (eItem (eVar 2) (eC (.int 0))) (aCons (eItem (eVar 2) (eC (.int 1))) aNil))) (gCn (gFldM "Space" "told" (eVar 0)) (gCn (gFldM "Space" "order" (eVar 0)) (gCn (gFldM "Space" "seen" (eVar 0)) gNl))))))
def m_Space___init__ : MF := mkF 2 1 b_Space___init__

def b_all_spaces : MS := (sSeq (sExpr (eFn m_check_both (aCons (eVar 0) (aCons (eVar 1) aNil)))) (sRet (eCall pTuple (aCons (eLc (itOf (eFn m_listed_texts (aCons (eVar 0) (aCons (eVar 1) aNil)))) [2] (gNm 2) tsYes (eMake false "Space" m_Space___init__ (aCons (eVar 2) aNil))) aNil))))
def m_all_spaces : MF := mkF 2 1 b_all_spaces

def b_count_spaces : MS := (sSeq (sExpr (eFn m_check_both (aCons (eVar 0) (aCons (eVar 1) aNil)))) (sRet (eCall pLen (aCons (eFn m_all_near (aCons (eVar 0) (aCons (eVar 1) aNil))) aNil))))
def m_count_spaces : MF := mkF 2 0 b_count_spaces

def b_orders_of : MS := (sSeq (sAsg (eLst (aCons (eLst aNil) aNil)) (gNm 1)) (sSeq (sFor (itRange1 (eVar 0)) (gNm 2) (sAsg (eLc2 (itOf (eVar 1)) [3, 4] (gNm 3) tsYes (itRange1 (eVar 0)) [4] (gNm 4) (tVal (eBin pNotIn2 (eVar 4) (eVar 3))) (eLst (aStar (eVar 3) (aCons (eVar 4) aNil)))) (gNm 1))) (sRet (eVar 1))))
def m_orders_of : MF := mkF 1 4 b_orders_of

def b_renamed : MS := (sSeq (sAsg (eLcC (itOf (eVar 1)) [3] (gNm 3) tsYes (eC (.int 0))) (gNm 2)) (sSeq (sFor (itEnum (eVar 0)) (gTp 2 (gCn (gNm 3) (gCn (gNm 4) gNl))) (sAsg (eCall pSum (aCons (eLc (itRange1 (eCall pLen (aCons (eVar 0) aNil))) [5] (gNm 5) (tVal (eBin pEq (eBin (pI fun i j => Builtin.bitAnd i j) (eBin (pIC bShr fun i j => i / 2 ^ j.toNat) (eVar 4) (eVar 5)) (eC (.int 1))) (eC (.int 1)))) (eBin (pIC bPow fun i j => i * 2 ^ j.toNat) (eC (.int 1)) (eItem (eVar 1) (eVar 5)))) aNil)) (gSubM (eVar 2) (eItem (eVar 1) (eVar 3))))) (sRet (eVar 2))))
def m_renamed : MF := mkF 2 4 b_renamed

def b_unlike_spaces : MS := (sSeq (sExpr (eFn m_check_both (aCons (eVar 0) (aCons (eVar 1) aNil)))) (sSeq (sPar 3 4 (aCons (eFn m_orders_of (aCons (eVar 0) aNil)) (aCons (eLstC aNil) aNil))) (sSeq (sFor (itOf (eFn m_all_near (aCons (eVar 0) (aCons (eVar 1) aNil)))) (gNm 2) (sSeq (sAsg (eFn m_text_of (aCons (eSl (eC (.tup [(.str [97]), (.str [98]), (.str [99]), (.str [100])])) oNo (oYes (eVar 0))) (aCons (eVar 2) aNil))) (gNm 5)) (sIf (tVal (eBin pEq (eVar 5) (eCall pMin (aCons (eLc (itOf (eVar 3)) [6] (gNm 6) tsYes (eFn m_text_of (aCons (eSl (eC (.tup [(.str [97]), (.str [98]), (.str [99]), (.str [100])])) oNo (oYes (eVar 0))) (aCons (eFn m_renamed (aCons (eVar 2) (aCons (eVar 6) aNil))) aNil)))) aNil)))) (sExpr (eMut isL fApp (eVar 4) (aCons (eVar 5) aNil))) sPass))) (sRet (eCall pTuple (aCons (eLc (itOf (eCall pSorted (aCons (eVar 4) aNil))) [5] (gNm 5) tsYes (eMake false "Space" m_Space___init__ (aCons (eVar 5) aNil))) aNil))))))
def m_unlike_spaces : MF := mkF 2 5 b_unlike_spaces

def b__law_listed : MS := (sSeq (sAsg (eLstC (aCons (eLam "_law_listed.<locals>.<lambda>" 1 "_law_listed" m__law_caught (eFn m_all_spaces (aCons (eVar 0) (aCons (eVar 1) aNil)))) aNil)) (gNm 2)) (sSeq (sExpr (eMut isL fApp (eVar 2) (aCons (eLam "_law_listed.<locals>.<lambda>" 1 "_law_listed" m__law_caught (eFnK m_count_spaces 0 2 [1, 0] aNil (aCons (eVar 1) (aCons (eVar 0) aNil)))) aNil))) (sSeq (sExpr (eMut isL fApp (eVar 2) (aCons (eLam "_law_listed.<locals>.<lambda>" 1 "_law_listed" m__law_caught (eFn m_unlike_spaces (aCons (eVar 0) (aCons (eVar 1) aNil)))) aNil))) (sRet (eVar 2)))))
def m__law_listed : MF := mkF 2 1 b__law_listed

def b_count_terms : MS := (sSeq (sExpr (eFn m_check_kind (aCons (eVar 0) aNil))) (sSeq (sIf (tNotM (tVal (eFn m_is_between (aCons (eVar 1) (aCons (eC (.int 0)) (aCons (eCall pLen (aCons (eC (.tup [(.str [120]), (.str [121]), (.str [122])])) aNil)) aNil)))))) (sRaise "InvalidNumber" "given" (aCons (eVar 1) aNil)) sPass) (sSeq (sAsg (eBin (pIC bPow fun i j => i * 2 ^ j.toNat) (eC (.int 1)) (eVar 1)) (gNm 2)) (sSeq (sIf (tVal (eBin pEq (eVar 0) (eC (.str [112, 108, 97, 105, 110])))) (sRet (eBin (pIC bPow fun i j => i * 2 ^ j.toNat) (eC (.int 1)) (eVar 2))) sPass) (sSeq (sIf (tVal (eBin pEq (eVar 0) (eC (.str [112, 97, 114, 116, 101, 100])))) (sRet (eBin (pIC bPow fun i j => i * 2 ^ j.toNat) (eC (.int 1)) (eBin (pIC bPow fun i j => i * 2 ^ j.toNat) (eVar 2) (eBin (pI fun i j => i - j) (eVar 2) (eC (.int 1)))))) sPass) (sRet (eIfM (tVal (eBin pEq (eVar 1) (eC (.int 0)))) (eC (.int 2)) (eC .non))))))))
def m_count_terms : MF := mkF 2 1 b_count_terms

def b__law_right : MS := (sSeq (sAsg (eFn m__law_take (aCons (eVar 0) (aCons (eLst (aCons (eC .non) (aCons (eC (.str [120])) (aCons (eC (.int 0)) (aCons (eC (.bl true)) (aCons (eTup aNil) (aCons (eLst aNil) (aCons eDct0 (aCons (eTup (aCons (eC (.str [120])) aNil)) (aCons (eC (.str [99, 40, 120, 41])) (aCons (eUn pNeg (eC (.int 1))) aNil))))))))))) aNil))) (gNm 1)) (sSeq (sAsg (eFn m__law_take (aCons (eVar 0) (aCons (eLst (aCons (eC (.str [101, 118, 101, 114, 121])) (aCons (eC (.str [65, 108, 108])) (aCons (eC .non) (aCons (eC (.int 0)) (aCons (eTup (aCons (eC (.str [97, 108, 108])) aNil)) (aCons (eLst (aCons (eC (.str [97, 108, 108])) aNil)) (aCons (eC (.str [])) (aCons (eC (.bl true)) aNil))))))))) aNil))) (gNm 2)) (sSeq (sParG 2 (aCons (eMake false "Term" m_Term___init__ (aCons (eFn (m__law_term 7) (aCons (eVar 0) (aCons (eLst (aCons (eC (.str [120])) (aCons (eC (.str [121])) aNil))) (aCons (eC (.int 2)) (aCons (eC (.int 3)) aNil))))) aNil)) (aCons (eFn m__law_take (aCons (eVar 0) (aCons (eFn m__law_kinds aNil) aNil))) aNil)) (gCn (gNm 6) (gCn (gNm 7) gNl))) (sSeq (sAsg (eFn m__law_take (aCons (eVar 0) (aCons (eLst (aCons (eC .non) (aCons (eC (.int 0)) (aCons (eC (.int 5)) (aCons (eC (.bl true)) (aCons (eUn pNeg (eC (.int 1))) (aCons (eC (.str [50])) (aCons (eTup (aCons (eC (.int 2)) aNil)) (aCons (eLst (aCons (eC (.int 3)) aNil)) (aCons (eBin (pIC bPow fun i j => i ^ j.toNat) (eC (.int 10)) (eC (.int 20))) aNil)))))))))) aNil))) (gNm 3)) (sSeq (sAsg (eLstC (aCons (eLam "_law_right.<locals>.<lambda>" 0 "_law_right" m__law_caught (eFn m_least_points (aCons (eVar 1) (aCons (eVar 1) (aCons (eVar 2) (aCons (eVar 3) aNil)))))) aNil)) (gNm 4)) (sSeq (sExpr (eMut isL fApp (eVar 4) (aCons (eLam "_law_right.<locals>.<lambda>" 0 "_law_right" m__law_caught (eFn m_least_points (aCons (eVar 6) (aCons (eVar 1) (aCons (eVar 2) (aCons (eVar 3) aNil)))))) aNil))) (sSeq (sExpr (eMut isL fApp (eVar 4) (aCons (eLam "_law_right.<locals>.<lambda>" 0 "_law_right" m__law_caught (eFn m_least_points (aCons (eVar 6) (aCons (eVar 6) (aCons (eVar 2) (aCons (eVar 3) aNil)))))) aNil))) (sSeq (sExpr (eMut isL fApp (eVar 4) (aCons (eLam "_law_right.<locals>.<lambda>" 0 "_law_right" m__law_caught (eFnK m_least_points 0 4 [3, 2, 1, 0] aNil (aCons (eVar 3) (aCons (eVar 7) (aCons (eVar 6) (aCons (eVar 6) aNil)))))) aNil))) (sSeq (sIf (tVal (eBin pNeX (eVar 4) (eBin pAdd (eBin pMul (eLst (aCons (eTup (aCons (eC (.str [78, 111, 116, 65, 84, 101, 114, 109])) (aCons (eVar 1) aNil))) aNil)) (eC (.int 2))) (eLst (aCons (eTup (aCons (eC (.str [73, 110, 118, 97, 108, 105, 100, 75, 105, 110, 100])) (aCons (eVar 2) aNil))) (aCons (eTup (aCons (eC (.str [73, 110, 118, 97, 108, 105, 100, 78, 117, 109, 98, 101, 114])) (aCons (eVar 3) aNil))) aNil)))))) (sRet (eC (.bl false))) sPass) (sSeq (sIf (tVal (eBin pNeX (eFn m__law_listed (aCons (eVar 3) (aCons (eVar 2) aNil))) (eBin pMul (eLst (aCons (eTup (aCons (eC (.str [73, 110, 118, 97, 108, 105, 100, 78, 117, 109, 98, 101, 114])) (aCons (eVar 3) aNil))) aNil)) (eC (.int 3))))) (sRet (eC (.bl false))) sPass) (sSeq (sIf (tVal (eBin pNeX (eFn m__law_listed (aCons (eC (.int 2)) (aCons (eVar 2) aNil))) (eBin pMul (eLst (aCons (eTup (aCons (eC (.str [73, 110, 118, 97, 108, 105, 100, 75, 105, 110, 100])) (aCons (eVar 2) aNil))) aNil)) (eC (.int 3))))) (sRet (eC (.bl false))) sPass) (sSeq (sAsg (eFn m__law_take (aCons (eVar 0) (aCons (eLst (aCons (eC .non) (aCons (eC (.int 4)) (aCons (eC (.bl true)) (aCons (eUn pNeg (eC (.int 1))) (aCons (eC (.str [50])) (aCons (eTup (aCons (eC (.int 2)) aNil)) (aCons (eLst (aCons (eC (.int 3)) aNil)) (aCons (eBin (pIC bPow fun i j => i ^ j.toNat) (eC (.int 10)) (eC (.int 20))) aNil))))))))) aNil))) (gNm 5)) (sSeq (sAsg (eLstC (aCons (eLam "_law_right.<locals>.<lambda>" 0 "_law_right" m__law_caught (eFn m_count_terms (aCons (eVar 2) (aCons (eVar 5) aNil)))) aNil)) (gNm 4)) (sSeq (sExpr (eMut isL fApp (eVar 4) (aCons (eLam "_law_right.<locals>.<lambda>" 0 "_law_right" m__law_caught (eFnK m_count_terms 0 2 [1, 0] aNil (aCons (eVar 5) (aCons (eVar 7) aNil)))) aNil))) (sRet (eBin pEqX (eVar 4) (eLst (aCons (eTup (aCons (eC (.str [73, 110, 118, 97, 108, 105, 100, 75, 105, 110, 100])) (aCons (eVar 2) aNil))) (aCons (eTup (aCons (eC (.str [73, 110, 118, 97, 108, 105, 100, 78, 117, 109, 98, 101, 114])) (aCons (eVar 5) aNil))) aNil)))))))))))))))))))
def m__law_right : MF := mkF 1 7 b__law_right

def b__law_cell : MS := (sSeq (sIf (tVal (eBin bLt (eVar 1) (eCall pLen (aCons (eVar 0) aNil)))) (sRet (eCall pInt (aCons (eItem (eVar 0) (eVar 1)) aNil))) sPass) (sSeq (sAsg (eBin pAdd (eBin pMul (eC (.int 7919)) (eVar 1)) (eC (.int 4021))) (gNm 2)) (sSeq (sFor (itOf (eSl (eVar 0) oNo (oYes (eC (.int 4))))) (gNm 3) (sAsg (eBin (pIC bMod fun i j => i % j) (eCall pInt (aCons (eBin pAdd (eBin pAdd (eBin pMul (eVar 2) (eC (.int 48337))) (eVar 3)) (eC (.int 59))) aNil)) (eC (.int 2147483587))) (gNm 2))) (sRet (eVar 2)))))
def m__law_cell : MF := mkF 2 2 b__law_cell

def b__law_jar : MS := (sSeq (sAsg (eCall pAbs (aCons (eFn m__law_cell (aCons (eVar 0) (aCons (eVar 1) aNil))) aNil)) (gNm 2)) (sRet (eLstC (aCons (eVar 2) (aCons (eBin (pIC bMod fun i j => i % j) (eCall pInt (aCons (eBin pAdd (eVar 2) (eBin pMul (eC (.int 907)) (eVar 1))) aNil)) (eC (.int 2147483587))) (aCons (eC (.int 0)) aNil))))))
def m__law_jar : MF := mkK 2 1 b__law_jar

def b_law : MS := (sRet (eCall pAll (aCons (eLc (itRange1 (eCall pMax2 (aCons (eC (.int 2)) (aCons (eCall pMin2 (aCons (eCall pLen (aCons (eVar 0) aNil)) (aCons (eC (.int 5)) aNil))) aNil)))) [1] (gNm 1) tsYes (eCut (eFn m__law_right (aCons (eFn m__law_jar (aCons (eVar 0) (aCons (eVar 1) aNil))) aNil)))) aNil)))
def m_law : MF := mkF 1 1 b_law
end Law

namespace Law
open PySem L2 Mir
def top (i : Nat) : Stmt := PySem.Challenge.pw_closedinner_k37_least_and_lists_refused.main.body.getD i (.Pass ⟨0, 0, 0, 0⟩)
def inC (s : Stmt) (j : Nat) : Stmt := match s with
  | .ClassDef (body := b) .. => b.getD j (.Pass ⟨0, 0, 0, 0⟩)
  | _ => .Pass ⟨0, 0, 0, 0⟩
abbrev s__law_dig : Stmt := top 80
abbrev s__law_take : Stmt := top 81
abbrev s__law_kinds : Stmt := top 82
abbrev s_Rows_number_of : Stmt := inC (top 23) 1
abbrev s_read_into : Stmt := top 24
abbrev s_Rows___init__ : Stmt := inC (top 23) 0
abbrev s_is_text : Stmt := top 25
abbrev s_Term___init__ : Stmt := inC (top 26) 0
abbrev s__law_term : Stmt := top 83
abbrev s__law_sort : Stmt := top 84
abbrev s__law_caught : Stmt := top 85
abbrev s_check_term : Stmt := top 28
abbrev s_check_kind : Stmt := top 53
abbrev s_is_integer : Stmt := top 33
abbrev s_is_between : Stmt := top 34
abbrev s_check_listed : Stmt := top 61
abbrev s_indexes_of : Stmt := top 43
abbrev s_is_seeing : Stmt := top 42
abbrev s_is_meeting : Stmt := top 57
abbrev s_is_pinned : Stmt := top 56
abbrev s_is_parted : Stmt := top 58
abbrev s_is_kind : Stmt := top 59
abbrev s_all_near : Stmt := top 62
abbrev s_all_lots : Stmt := top 63
abbrev s_all_bits : Stmt := top 46
abbrev s_closure_of : Stmt := top 44
abbrev s_inside_of : Stmt := top 45
abbrev s_bits_of_row : Stmt := top 55
abbrev s_bits_at : Stmt := top 54
abbrev s_is_parted_by : Stmt := top 64
abbrev s_least_points : Stmt := top 65
abbrev s_check_both : Stmt := top 71
abbrev s_text_of : Stmt := top 47
abbrev s_listed_texts : Stmt := top 68
abbrev s_is_name : Stmt := top 35
abbrev s_read_row : Stmt := top 38
abbrev s_is_ordered : Stmt := top 39
abbrev s_bits_of : Stmt := top 40
abbrev s_read_space : Stmt := top 41
abbrev s_Space___init__ : Stmt := inC (top 48) 0
abbrev s_all_spaces : Stmt := top 72
abbrev s_count_spaces : Stmt := top 73
abbrev s_orders_of : Stmt := top 69
abbrev s_renamed : Stmt := top 70
abbrev s_unlike_spaces : Stmt := top 74
abbrev s__law_listed : Stmt := top 86
abbrev s_count_terms : Stmt := top 76
abbrev s__law_right : Stmt := top 87
abbrev s__law_cell : Stmt := top 78
abbrev s__law_jar : Stmt := top 79
abbrev s_law : Stmt := top 88
abbrev s_InvalidKind___init__ : Stmt := inC (top 4) 0
abbrev s_InvalidNumber___init__ : Stmt := inC (top 7) 0
abbrev s_InvalidText___init__ : Stmt := inC (top 3) 0
abbrev s_NotATerm___init__ : Stmt := inC (top 8) 0
structure Tp (w : World) (K : PySem.W.Frag) (mg : Str → Option Value) (base : Heap) : Prop where
  f_abs : mg "abs" = none
  f_all : mg "all" = none
  f_any : mg "any" = none
  f_bool : mg "bool" = none
  f_dict : mg "dict" = none
  f_divmod : mg "divmod" = none
  f_enumerate : mg "enumerate" = none
  f_int : mg "int" = none
  f_isinstance : mg "isinstance" = none
  f_len : mg "len" = none
  f_max : mg "max" = none
  f_min : mg "min" = none
  f_range : mg "range" = none
  f_sorted : mg "sorted" = none
  f_str : mg "str" = none
  f_sum : mg "sum" = none
  f_tuple : mg "tuple" = none
  f_zip : mg "zip" = none
  v_DEEDS : GV K mg "DEEDS" (.tup [(.str [99]), (.str [105]), (.str [110])])
  v_DIGITS : GV K mg "DIGITS" (.str [48, 49, 50, 51, 52, 53, 54, 55, 56, 57])
  v_KINDS : GV K mg "KINDS" (.tup [(.str [97, 108, 108]), (.str [109, 101, 101, 116, 105, 110, 103]), (.str [112, 105, 110, 110, 101, 100]), (.str [98, 111, 116, 104]), (.str [112, 97, 114, 116, 101, 100]), (.str [112, 108, 97, 105, 110])])
  v_LETTERS : GV K mg "LETTERS" (.str [97, 98, 99, 100, 101, 102, 103, 104, 105, 106, 107, 108, 109, 110, 111, 112, 113, 114, 115, 116, 117, 118, 119, 120, 121, 122])
  v_LONGEST : GV K mg "LONGEST" (.int 8)
  v_MOST_LISTED : GV K mg "MOST_LISTED" (.int 4)
  v_MOST_POINTS : GV K mg "MOST_POINTS" (.int 256)
  v_MOST_SIGNS : GV K mg "MOST_SIGNS" (.int 300)
  v_NAMES : GV K mg "NAMES" (.tup [(.str [97]), (.str [98]), (.str [99]), (.str [100])])
  v_PLAIN : GV K mg "PLAIN" (.tup [(.str [120]), (.str [121]), (.str [122]), (.str [48]), (.str [49])])
  v_SETS : GV K mg "SETS" (.tup [(.str [120]), (.str [121]), (.str [122])])
  t_SETS : TupC K mg "SETS" [(.str [120]), (.str [121]), (.str [122])]
  g_InvalidKind : mg "InvalidKind" = some (.ref (He.ga K "InvalidKind"))
  g_InvalidNumber : mg "InvalidNumber" = some (.ref (He.ga K "InvalidNumber"))
  g_InvalidPremises : mg "InvalidPremises" = some (.ref (He.ga K "InvalidPremises"))
  g_InvalidSet : mg "InvalidSet" = some (.ref (He.ga K "InvalidSet"))
  g_InvalidText : mg "InvalidText" = some (.ref (He.ga K "InvalidText"))
  g_InvalidWord : mg "InvalidWord" = some (.ref (He.ga K "InvalidWord"))
  g_NoAnswer : mg "NoAnswer" = some (.ref (He.ga K "NoAnswer"))
  g_NotASpace : mg "NotASpace" = some (.ref (He.ga K "NotASpace"))
  g_NotATerm : mg "NotATerm" = some (.ref (He.ga K "NotATerm"))
  g_Rows : mg "Rows" = some (.ref (He.ga K "Rows"))
  g_Space : mg "Space" = some (.ref (He.ga K "Space"))
  g_Term : mg "Term" = some (.ref (He.ga K "Term"))
  g_TooMany : mg "TooMany" = some (.ref (He.ga K "TooMany"))
  g_WrongName : mg "WrongName" = some (.ref (He.ga K "WrongName"))
  g_WrongValue : mg "WrongValue" = some (.ref (He.ga K "WrongValue"))
  g__law_caught : mg "_law_caught" = some (.ref (He.ga K "_law_caught"))
  g__law_cell : mg "_law_cell" = some (.ref (He.ga K "_law_cell"))
  g__law_dig : mg "_law_dig" = some (.ref (He.ga K "_law_dig"))
  g__law_jar : mg "_law_jar" = some (.ref (He.ga K "_law_jar"))
  g__law_kinds : mg "_law_kinds" = some (.ref (He.ga K "_law_kinds"))
  g__law_listed : mg "_law_listed" = some (.ref (He.ga K "_law_listed"))
  g__law_right : mg "_law_right" = some (.ref (He.ga K "_law_right"))
  g__law_sort : mg "_law_sort" = some (.ref (He.ga K "_law_sort"))
  g__law_take : mg "_law_take" = some (.ref (He.ga K "_law_take"))
  g__law_term : mg "_law_term" = some (.ref (He.ga K "_law_term"))
  g_all_bits : mg "all_bits" = some (.ref (He.ga K "all_bits"))
  g_all_lots : mg "all_lots" = some (.ref (He.ga K "all_lots"))
  g_all_near : mg "all_near" = some (.ref (He.ga K "all_near"))
  g_all_spaces : mg "all_spaces" = some (.ref (He.ga K "all_spaces"))
  g_bits_at : mg "bits_at" = some (.ref (He.ga K "bits_at"))
  g_bits_of : mg "bits_of" = some (.ref (He.ga K "bits_of"))
  g_bits_of_row : mg "bits_of_row" = some (.ref (He.ga K "bits_of_row"))
  g_check_both : mg "check_both" = some (.ref (He.ga K "check_both"))
  g_check_kind : mg "check_kind" = some (.ref (He.ga K "check_kind"))
  g_check_listed : mg "check_listed" = some (.ref (He.ga K "check_listed"))
  g_check_term : mg "check_term" = some (.ref (He.ga K "check_term"))
  g_closure_of : mg "closure_of" = some (.ref (He.ga K "closure_of"))
  g_count_spaces : mg "count_spaces" = some (.ref (He.ga K "count_spaces"))
  g_count_terms : mg "count_terms" = some (.ref (He.ga K "count_terms"))
  g_indexes_of : mg "indexes_of" = some (.ref (He.ga K "indexes_of"))
  g_inside_of : mg "inside_of" = some (.ref (He.ga K "inside_of"))
  g_is_between : mg "is_between" = some (.ref (He.ga K "is_between"))
  g_is_integer : mg "is_integer" = some (.ref (He.ga K "is_integer"))
  g_is_kind : mg "is_kind" = some (.ref (He.ga K "is_kind"))
  g_is_meeting : mg "is_meeting" = some (.ref (He.ga K "is_meeting"))
  g_is_name : mg "is_name" = some (.ref (He.ga K "is_name"))
  g_is_ordered : mg "is_ordered" = some (.ref (He.ga K "is_ordered"))
  g_is_parted : mg "is_parted" = some (.ref (He.ga K "is_parted"))
  g_is_parted_by : mg "is_parted_by" = some (.ref (He.ga K "is_parted_by"))
  g_is_pinned : mg "is_pinned" = some (.ref (He.ga K "is_pinned"))
  g_is_seeing : mg "is_seeing" = some (.ref (He.ga K "is_seeing"))
  g_is_text : mg "is_text" = some (.ref (He.ga K "is_text"))
  g_law : mg "law" = some (.ref (He.ga K "law"))
  g_least_points : mg "least_points" = some (.ref (He.ga K "least_points"))
  g_listed_texts : mg "listed_texts" = some (.ref (He.ga K "listed_texts"))
  g_orders_of : mg "orders_of" = some (.ref (He.ga K "orders_of"))
  g_read_into : mg "read_into" = some (.ref (He.ga K "read_into"))
  g_read_row : mg "read_row" = some (.ref (He.ga K "read_row"))
  g_read_space : mg "read_space" = some (.ref (He.ga K "read_space"))
  g_renamed : mg "renamed" = some (.ref (He.ga K "renamed"))
  g_text_of : mg "text_of" = some (.ref (He.ga K "text_of"))
  g_unlike_spaces : mg "unlike_spaces" = some (.ref (He.ga K "unlike_spaces"))
  c_Rows : Cls K (He.ga K "Rows")
  c_Space : Cls K (He.ga K "Space")
  c_Term : Cls K (He.ga K "Term")
  n_Rows_found : NoAttr K (He.ga K "Rows") "found"
  n_Rows_listed : NoAttr K (He.ga K "Rows") "listed"
  n_Space_order : NoAttr K (He.ga K "Space") "order"
  n_Space_seen : NoAttr K (He.ga K "Space") "seen"
  n_Space_told : NoAttr K (He.ga K "Space") "told"
  n_Term_told : NoAttr K (He.ga K "Term") "told"
  xk_InvalidKind : ExK K "InvalidKind"
  xk_InvalidNumber : ExK K "InvalidNumber"
  xk_InvalidPremises : ExK K "InvalidPremises"
  xk_InvalidSet : ExK K "InvalidSet"
  xk_InvalidText : ExK K "InvalidText"
  xk_InvalidWord : ExK K "InvalidWord"
  xk_NotASpace : ExK K "NotASpace"
  xk_NotATerm : ExK K "NotATerm"
  xk_TooMany : ExK K "TooMany"
  xi_InvalidKind : ExI K "InvalidKind"
  xi_InvalidNumber : ExI K "InvalidNumber"
  xi_InvalidText : ExI K "InvalidText"
  xi_NotATerm : ExI K "NotATerm"
  xn_InvalidKind_given : ExN K "InvalidKind" "given"
  xn_InvalidNumber_given : ExN K "InvalidNumber" "given"
  xn_InvalidPremises_index : ExN K "InvalidPremises" "index"
  xn_InvalidSet_given : ExN K "InvalidSet" "given"
  xn_InvalidText_given : ExN K "InvalidText" "given"
  xn_InvalidWord_given : ExN K "InvalidWord" "given"
  xn_NotASpace_given : ExN K "NotASpace" "given"
  xn_NotATerm_given : ExN K "NotATerm" "given"
  xn_TooMany_limit : ExN K "TooMany" "limit"
  kt : KtOk K exK
  sb : SbOk K exT
  me_Rows_number_of : Meth K (He.ga K "Rows") "number_of" (He.ma K (He.ga K "Rows") "number_of")
  mk_Rows : Mk K (He.ga K "Rows") (He.ma K (He.ga K "Rows") "__init__")
  mk_Term : Mk K (He.ga K "Term") (He.ma K (He.ga K "Term") "__init__")
  mk_Space : Mk K (He.ga K "Space") (He.ma K (He.ga K "Space") "__init__")
  isi : IsiC K isiCs
  d__law_dig : ∃ fd, FunD K "_law_dig" "_law_dig" (defArgs s__law_dig) (defBody s__law_dig) (defScope s__law_dig) [] [] (He.ga K "_law_dig") fd
  d__law_take : ∃ fd, FunD K "_law_take" "_law_take" (defArgs s__law_take) (defBody s__law_take) (defScope s__law_take) [] [] (He.ga K "_law_take") fd
  d__law_kinds : ∃ fd, FunD K "_law_kinds" "_law_kinds" (defArgs s__law_kinds) (defBody s__law_kinds) (defScope s__law_kinds) [] [] (He.ga K "_law_kinds") fd
  d_Rows_number_of : ∃ fd, FunD K "number_of" "Rows.number_of" (defArgs s_Rows_number_of) (defBody s_Rows_number_of) (defScope s_Rows_number_of) [] [] (He.ma K (He.ga K "Rows") "number_of") fd
  d_read_into : ∃ fd, FunD K "read_into" "read_into" (defArgs s_read_into) (defBody s_read_into) (defScope s_read_into) [] [] (He.ga K "read_into") fd
  d_Rows___init__ : ∃ fd, FunD K "__init__" "Rows.__init__" (defArgs s_Rows___init__) (defBody s_Rows___init__) (defScope s_Rows___init__) [] [] (He.ma K (He.ga K "Rows") "__init__") fd
  d_is_text : ∃ fd, FunD K "is_text" "is_text" (defArgs s_is_text) (defBody s_is_text) (defScope s_is_text) [] [] (He.ga K "is_text") fd
  d_Term___init__ : ∃ fd, FunD K "__init__" "Term.__init__" (defArgs s_Term___init__) (defBody s_Term___init__) (defScope s_Term___init__) [] [] (He.ma K (He.ga K "Term") "__init__") fd
  d__law_term : ∃ fd, FunD K "_law_term" "_law_term" (defArgs s__law_term) (defBody s__law_term) (defScope s__law_term) [] [] (He.ga K "_law_term") fd
  d__law_sort : ∃ fd, FunD K "_law_sort" "_law_sort" (defArgs s__law_sort) (defBody s__law_sort) (defScope s__law_sort) [] [] (He.ga K "_law_sort") fd
  d__law_caught : ∃ fd, FunD K "_law_caught" "_law_caught" (defArgs s__law_caught) (defBody s__law_caught) (defScope s__law_caught) [] [] (He.ga K "_law_caught") fd
  d_check_term : ∃ fd, FunD K "check_term" "check_term" (defArgs s_check_term) (defBody s_check_term) (defScope s_check_term) [] [] (He.ga K "check_term") fd
  d_check_kind : ∃ fd, FunD K "check_kind" "check_kind" (defArgs s_check_kind) (defBody s_check_kind) (defScope s_check_kind) [] [] (He.ga K "check_kind") fd
  d_is_integer : ∃ fd, FunD K "is_integer" "is_integer" (defArgs s_is_integer) (defBody s_is_integer) (defScope s_is_integer) [] [] (He.ga K "is_integer") fd
  d_is_between : ∃ fd, FunD K "is_between" "is_between" (defArgs s_is_between) (defBody s_is_between) (defScope s_is_between) [] [] (He.ga K "is_between") fd
  d_check_listed : ∃ fd, FunD K "check_listed" "check_listed" (defArgs s_check_listed) (defBody s_check_listed) (defScope s_check_listed) [] [] (He.ga K "check_listed") fd
  d_indexes_of : ∃ fd, FunD K "indexes_of" "indexes_of" (defArgs s_indexes_of) (defBody s_indexes_of) (defScope s_indexes_of) [] [] (He.ga K "indexes_of") fd
  d_is_seeing : ∃ fd, FunD K "is_seeing" "is_seeing" (defArgs s_is_seeing) (defBody s_is_seeing) (defScope s_is_seeing) [] [] (He.ga K "is_seeing") fd
  d_is_meeting : ∃ fd, FunD K "is_meeting" "is_meeting" (defArgs s_is_meeting) (defBody s_is_meeting) (defScope s_is_meeting) [] [] (He.ga K "is_meeting") fd
  d_is_pinned : ∃ fd, FunD K "is_pinned" "is_pinned" (defArgs s_is_pinned) (defBody s_is_pinned) (defScope s_is_pinned) [] [] (He.ga K "is_pinned") fd
  d_is_parted : ∃ fd, FunD K "is_parted" "is_parted" (defArgs s_is_parted) (defBody s_is_parted) (defScope s_is_parted) [] [] (He.ga K "is_parted") fd
  d_is_kind : ∃ fd, FunD K "is_kind" "is_kind" (defArgs s_is_kind) (defBody s_is_kind) (defScope s_is_kind) [] [] (He.ga K "is_kind") fd
  d_all_near : ∃ fd, FunD K "all_near" "all_near" (defArgs s_all_near) (defBody s_all_near) (defScope s_all_near) [] [] (He.ga K "all_near") fd
  d_all_lots : ∃ fd, FunD K "all_lots" "all_lots" (defArgs s_all_lots) (defBody s_all_lots) (defScope s_all_lots) [] [] (He.ga K "all_lots") fd
  d_all_bits : ∃ fd, FunD K "all_bits" "all_bits" (defArgs s_all_bits) (defBody s_all_bits) (defScope s_all_bits) [] [] (He.ga K "all_bits") fd
  d_closure_of : ∃ fd, FunD K "closure_of" "closure_of" (defArgs s_closure_of) (defBody s_closure_of) (defScope s_closure_of) [] [] (He.ga K "closure_of") fd
  d_inside_of : ∃ fd, FunD K "inside_of" "inside_of" (defArgs s_inside_of) (defBody s_inside_of) (defScope s_inside_of) [] [] (He.ga K "inside_of") fd
  d_bits_of_row : ∃ fd, FunD K "bits_of_row" "bits_of_row" (defArgs s_bits_of_row) (defBody s_bits_of_row) (defScope s_bits_of_row) [] [] (He.ga K "bits_of_row") fd
  d_bits_at : ∃ fd, FunD K "bits_at" "bits_at" (defArgs s_bits_at) (defBody s_bits_at) (defScope s_bits_at) [] [] (He.ga K "bits_at") fd
  d_is_parted_by : ∃ fd, FunD K "is_parted_by" "is_parted_by" (defArgs s_is_parted_by) (defBody s_is_parted_by) (defScope s_is_parted_by) [] [] (He.ga K "is_parted_by") fd
  d_least_points : ∃ fd, FunD K "least_points" "least_points" (defArgs s_least_points) (defBody s_least_points) (defScope s_least_points) [] [] (He.ga K "least_points") fd
  d_check_both : ∃ fd, FunD K "check_both" "check_both" (defArgs s_check_both) (defBody s_check_both) (defScope s_check_both) [] [] (He.ga K "check_both") fd
  d_text_of : ∃ fd, FunD K "text_of" "text_of" (defArgs s_text_of) (defBody s_text_of) (defScope s_text_of) [] [] (He.ga K "text_of") fd
  d_listed_texts : ∃ fd, FunD K "listed_texts" "listed_texts" (defArgs s_listed_texts) (defBody s_listed_texts) (defScope s_listed_texts) [] [] (He.ga K "listed_texts") fd
  d_is_name : ∃ fd, FunD K "is_name" "is_name" (defArgs s_is_name) (defBody s_is_name) (defScope s_is_name) [] [] (He.ga K "is_name") fd
  d_read_row : ∃ fd, FunD K "read_row" "read_row" (defArgs s_read_row) (defBody s_read_row) (defScope s_read_row) [] [] (He.ga K "read_row") fd
  d_is_ordered : ∃ fd, FunD K "is_ordered" "is_ordered" (defArgs s_is_ordered) (defBody s_is_ordered) (defScope s_is_ordered) [] [] (He.ga K "is_ordered") fd
  d_bits_of : ∃ fd, FunD K "bits_of" "bits_of" (defArgs s_bits_of) (defBody s_bits_of) (defScope s_bits_of) [] [] (He.ga K "bits_of") fd
  d_read_space : ∃ fd, FunD K "read_space" "read_space" (defArgs s_read_space) (defBody s_read_space) (defScope s_read_space) [] [] (He.ga K "read_space") fd
  d_Space___init__ : ∃ fd, FunD K "__init__" "Space.__init__" (defArgs s_Space___init__) (defBody s_Space___init__) (defScope s_Space___init__) [] [] (He.ma K (He.ga K "Space") "__init__") fd
  d_all_spaces : ∃ fd, FunD K "all_spaces" "all_spaces" (defArgs s_all_spaces) (defBody s_all_spaces) (defScope s_all_spaces) [] [] (He.ga K "all_spaces") fd
  d_count_spaces : ∃ fd, FunD K "count_spaces" "count_spaces" (defArgs s_count_spaces) (defBody s_count_spaces) (defScope s_count_spaces) [] [] (He.ga K "count_spaces") fd
  d_orders_of : ∃ fd, FunD K "orders_of" "orders_of" (defArgs s_orders_of) (defBody s_orders_of) (defScope s_orders_of) [] [] (He.ga K "orders_of") fd
  d_renamed : ∃ fd, FunD K "renamed" "renamed" (defArgs s_renamed) (defBody s_renamed) (defScope s_renamed) [] [] (He.ga K "renamed") fd
  d_unlike_spaces : ∃ fd, FunD K "unlike_spaces" "unlike_spaces" (defArgs s_unlike_spaces) (defBody s_unlike_spaces) (defScope s_unlike_spaces) [] [] (He.ga K "unlike_spaces") fd
  d__law_listed : ∃ fd, FunD K "_law_listed" "_law_listed" (defArgs s__law_listed) (defBody s__law_listed) (defScope s__law_listed) [] [] (He.ga K "_law_listed") fd
  d_count_terms : ∃ fd, FunD K "count_terms" "count_terms" (defArgs s_count_terms) (defBody s_count_terms) (defScope s_count_terms) [] [] (He.ga K "count_terms") fd
  d__law_right : ∃ fd, FunD K "_law_right" "_law_right" (defArgs s__law_right) (defBody s__law_right) (defScope s__law_right) [] [] (He.ga K "_law_right") fd
  d__law_cell : ∃ fd, FunD K "_law_cell" "_law_cell" (defArgs s__law_cell) (defBody s__law_cell) (defScope s__law_cell) [] [] (He.ga K "_law_cell") fd
  d__law_jar : ∃ fd, FunD K "_law_jar" "_law_jar" (defArgs s__law_jar) (defBody s__law_jar) (defScope s__law_jar) [] [] (He.ga K "_law_jar") fd
  d_law : ∃ fd, FunD K "law" "law" (defArgs s_law) (defBody s_law) (defScope s_law) [] [] (He.ga K "law") fd
  d_InvalidKind___init__ : ∃ fd, FunD K "__init__" "InvalidKind.__init__" (defArgs s_InvalidKind___init__) (defBody s_InvalidKind___init__) (defScope s_InvalidKind___init__) [] [] (He.ma K (He.ga K "InvalidKind") "__init__") fd
  d_InvalidNumber___init__ : ∃ fd, FunD K "__init__" "InvalidNumber.__init__" (defArgs s_InvalidNumber___init__) (defBody s_InvalidNumber___init__) (defScope s_InvalidNumber___init__) [] [] (He.ma K (He.ga K "InvalidNumber") "__init__") fd
  d_InvalidText___init__ : ∃ fd, FunD K "__init__" "InvalidText.__init__" (defArgs s_InvalidText___init__) (defBody s_InvalidText___init__) (defScope s_InvalidText___init__) [] [] (He.ma K (He.ga K "InvalidText") "__init__") fd
  d_NotATerm___init__ : ∃ fd, FunD K "__init__" "NotATerm.__init__" (defArgs s_NotATerm___init__) (defBody s_NotATerm___init__) (defScope s_NotATerm___init__) [] [] (He.ma K (He.ga K "NotATerm") "__init__") fd
  tb__law_right : LamX.TabB base mg (lamC K "_law_right") (lamT K "_law_right")
  tb__law_listed : LamX.TabB base mg (lamC K "_law_listed") (lamT K "_law_listed")
section
variable {P : Program} {w : World} {K : PySem.W.Frag} {mg : Str → Option Value} {base : Heap}
theorem sc_InvalidKind___init__ : FnScope ["self", "given"] ["self", "given"] (defScope s_InvalidKind___init__) := ⟨rfl, rfl, rfl, by decide +kernel, rfl, by decide +kernel, by decide +kernel⟩
theorem x_InvalidKind (T : Tp w K mg base) : XC P w K mg base "InvalidKind" "given" 1 := by
  obtain ⟨fd, F⟩ := T.d_InvalidKind___init__
  exact ⟨T.g_InvalidKind, T.xk_InvalidKind.oex, _, fd, ["self", "given"], T.xi_InvalidKind.ini, T.xi_InvalidKind.ty, fn_xinit F sc_InvalidKind___init__ T.xk_InvalidKind.oex T.xn_InvalidKind_given rfl (by first | exact Or.inl rfl | exact Or.inr (Or.inl rfl) | exact Or.inr (Or.inr rfl)) (by first | exact Or.inl rfl | exact Or.inr (Or.inl rfl) | exact Or.inr (Or.inr rfl)), FunD.bindsN F (fun _ _ _ _ _ _ us hl => match us, hl with | [_, _], _ => rfl)⟩
theorem sc_InvalidNumber___init__ : FnScope ["self", "given"] ["self", "given"] (defScope s_InvalidNumber___init__) := ⟨rfl, rfl, rfl, by decide +kernel, rfl, by decide +kernel, by decide +kernel⟩
theorem x_InvalidNumber (T : Tp w K mg base) : XC P w K mg base "InvalidNumber" "given" 1 := by
  obtain ⟨fd, F⟩ := T.d_InvalidNumber___init__
  exact ⟨T.g_InvalidNumber, T.xk_InvalidNumber.oex, _, fd, ["self", "given"], T.xi_InvalidNumber.ini, T.xi_InvalidNumber.ty, fn_xinit F sc_InvalidNumber___init__ T.xk_InvalidNumber.oex T.xn_InvalidNumber_given rfl (by first | exact Or.inl rfl | exact Or.inr (Or.inl rfl) | exact Or.inr (Or.inr rfl)) (by first | exact Or.inl rfl | exact Or.inr (Or.inl rfl) | exact Or.inr (Or.inr rfl)), FunD.bindsN F (fun _ _ _ _ _ _ us hl => match us, hl with | [_, _], _ => rfl)⟩
theorem sc_InvalidText___init__ : FnScope ["self", "given"] ["self", "given"] (defScope s_InvalidText___init__) := ⟨rfl, rfl, rfl, by decide +kernel, rfl, by decide +kernel, by decide +kernel⟩
theorem x_InvalidText (T : Tp w K mg base) : XC P w K mg base "InvalidText" "given" 1 := by
  obtain ⟨fd, F⟩ := T.d_InvalidText___init__
  exact ⟨T.g_InvalidText, T.xk_InvalidText.oex, _, fd, ["self", "given"], T.xi_InvalidText.ini, T.xi_InvalidText.ty, fn_xinit F sc_InvalidText___init__ T.xk_InvalidText.oex T.xn_InvalidText_given rfl (by first | exact Or.inl rfl | exact Or.inr (Or.inl rfl) | exact Or.inr (Or.inr rfl)) (by first | exact Or.inl rfl | exact Or.inr (Or.inl rfl) | exact Or.inr (Or.inr rfl)), FunD.bindsN F (fun _ _ _ _ _ _ us hl => match us, hl with | [_, _], _ => rfl)⟩
theorem sc_NotATerm___init__ : FnScope ["self", "given"] ["self", "given"] (defScope s_NotATerm___init__) := ⟨rfl, rfl, rfl, by decide +kernel, rfl, by decide +kernel, by decide +kernel⟩
theorem x_NotATerm (T : Tp w K mg base) : XC P w K mg base "NotATerm" "given" 1 := by
  obtain ⟨fd, F⟩ := T.d_NotATerm___init__
  exact ⟨T.g_NotATerm, T.xk_NotATerm.oex, _, fd, ["self", "given"], T.xi_NotATerm.ini, T.xi_NotATerm.ty, fn_xinit F sc_NotATerm___init__ T.xk_NotATerm.oex T.xn_NotATerm_given rfl (by first | exact Or.inl rfl | exact Or.inr (Or.inl rfl) | exact Or.inr (Or.inr rfl)) (by first | exact Or.inl rfl | exact Or.inr (Or.inl rfl) | exact Or.inr (Or.inr rfl)), FunD.bindsN F (fun _ _ _ _ _ _ us hl => match us, hl with | [_, _], _ => rfl)⟩
theorem sc__law_dig : FnScope ["_law_jar_here", "_law_many", "_law_mixed", "_law_digit"] ["_law_jar_here", "_law_many"] (defScope s__law_dig) := ⟨rfl, rfl, rfl, by decide +kernel, rfl, by decide +kernel, by decide +kernel⟩
theorem g__law_dig (T : Tp w K mg base) : GF P w K mg base "_law_dig" (defArgs s__law_dig) ["_law_jar_here", "_law_many"] 1 m__law_dig := by
  obtain ⟨fd, F⟩ := T.d__law_dig
  refine ⟨T.g__law_dig, F.kp, fd, ?_, FunD.bindsN F (fun _ _ _ _ _ _ us hl => match us, hl with | [_, _], _ => rfl), Mir.FunD.hasPar F, Mir.FunD.at_ F⟩
  refine fn_ok (k := 0) F sc__law_dig rfl fun cdv A outer s H E hr => ?_
  have nd := sc__law_dig.nd
  have tk := takes_of (X := cxOf (L2.CX P w) P w K mg base ["_law_jar_here", "_law_many", "_law_mixed", "_law_digit"] "_law_dig" (defScope s__law_dig) (He.ga K "_law_dig") cdv A outer s H E) rfl rfl rfl rfl
  have po := passes_of (X := cxOf (L2.CX P w) P w K mg base ["_law_jar_here", "_law_many", "_law_mixed", "_law_digit"] "_law_dig" (defScope s__law_dig) (He.ga K "_law_dig") cdv A outer s H E) rfl
  exact (oss_cons (os_asg (oe_add (oe_it (oe_var 0) oe_int) oe_int) (og_sub (oe_var 0) oe_int)) (oss_cons (os_set (i := 2) nd (oe_intC T.f_int (oe_it (oe_var 0) oe_int))) (oss_cons (os_asg (oe_mod (oe_intC T.f_int (oe_add (oe_add (oe_mul (oe_var 2) (oe_add (oe_mod (oe_intC T.f_int (oe_var 2)) oe_int) oe_int)) (oe_mul (oe_it (oe_var 0) oe_int) oe_int)) oe_int)) oe_int) (og_sub (oe_var 0) oe_int)) (oss_cons (os_if (ot_gt (oe_it (oe_var 0) oe_int) oe_int) (oss_cons (os_asg (oe_divmod T.f_divmod (oe_it (oe_var 0) oe_int) (oe_var 1)) (og_tup rfl (ogs_cons (og_sub (oe_var 0) oe_int) (ogs_cons (og_name nd) ogs_nil)))) (oss_one (os_ret (oe_var 3)))) oss_nil) (oss_one (os_ret (oe_mod (oe_intC T.f_int (oe_fdiv (oe_it (oe_var 0) oe_int) oe_int)) (oe_var 1))))))))
theorem sc__law_take : FnScope ["_law_jar_here", "_law_some"] ["_law_jar_here", "_law_some"] (defScope s__law_take) := ⟨rfl, rfl, rfl, by decide +kernel, rfl, by decide +kernel, by decide +kernel⟩
theorem g__law_take (T : Tp w K mg base) : GF P w K mg base "_law_take" (defArgs s__law_take) ["_law_jar_here", "_law_some"] 2 m__law_take := by
  obtain ⟨fd, F⟩ := T.d__law_take
  refine ⟨T.g__law_take, F.kp, fd, ?_, FunD.bindsN F (fun _ _ _ _ _ _ us hl => match us, hl with | [_, _], _ => rfl), Mir.FunD.hasPar F, Mir.FunD.at_ F⟩
  refine fn_ok (k := 1) F sc__law_take rfl fun cdv A outer s H E hr => ?_
  have nd := sc__law_take.nd
  have tk := takes_of (X := cxOf (L2.CX P w) P w K mg base ["_law_jar_here", "_law_some"] "_law_take" (defScope s__law_take) (He.ga K "_law_take") cdv A outer s H E) rfl rfl rfl rfl
  have po := passes_of (X := cxOf (L2.CX P w) P w K mg base ["_law_jar_here", "_law_some"] "_law_take" (defScope s__law_take) (He.ga K "_law_take") cdv A outer s H E) rfl
  exact (oss_one (os_ret (oe_it (oe_var 1) (oe_fn (g__law_dig T) hr (by decide) tk (oa_cons (oe_var 0) (oa_cons (oe_len T.f_len (oe_var 1)) oa_nil))))))
theorem sc__law_kinds : FnScope [] [] (defScope s__law_kinds) := ⟨rfl, rfl, rfl, by decide +kernel, rfl, by decide +kernel, by decide +kernel⟩
theorem g__law_kinds (T : Tp w K mg base) : GF P w K mg base "_law_kinds" (defArgs s__law_kinds) [] 1 m__law_kinds := by
  obtain ⟨fd, F⟩ := T.d__law_kinds
  refine ⟨T.g__law_kinds, F.kp, fd, ?_, FunD.bindsN F (fun _ _ _ _ _ _ us hl => match us, hl with | [], _ => rfl), Mir.FunD.hasPar F, Mir.FunD.at_ F⟩
  refine fn_ok (k := 0) F sc__law_kinds rfl fun cdv A outer s H E hr => ?_
  have nd := sc__law_kinds.nd
  have tk := takes_of (X := cxOf (L2.CX P w) P w K mg base [] "_law_kinds" (defScope s__law_kinds) (He.ga K "_law_kinds") cdv A outer s H E) rfl rfl rfl rfl
  have po := passes_of (X := cxOf (L2.CX P w) P w K mg base [] "_law_kinds" (defScope s__law_kinds) (He.ga K "_law_kinds") cdv A outer s H E) rfl
  exact (oss_one (os_ret (oe_lst (oa_cons oe_str (oa_cons oe_str (oa_cons oe_str (oa_cons oe_str (oa_cons oe_str (oa_cons oe_str oa_nil)))))))))
theorem sc_Rows_number_of : FnScope ["self", "row"] ["self", "row"] (defScope s_Rows_number_of) := ⟨rfl, rfl, rfl, by decide +kernel, rfl, by decide +kernel, by decide +kernel⟩
theorem g_Rows_number_of (T : Tp w K mg base) : GM P w K mg base "Rows" "number_of" (defArgs s_Rows_number_of) ["self", "row"] 1 m_Rows_number_of := by
  obtain ⟨fd, F⟩ := T.d_Rows_number_of
  refine ⟨T.c_Rows, T.me_Rows_number_of, fd, ?_, FunD.bindsN F (fun _ _ _ _ _ _ us hl => match us, hl with | [_, _], _ => rfl), Mir.FunD.hasPar F⟩
  refine fn_ok (k := 0) F sc_Rows_number_of rfl fun cdv A outer s H E hr => ?_
  have nd := sc_Rows_number_of.nd
  have tk := takes_of (X := cxOf (L2.CX P w) P w K mg base ["self", "row"] "Rows.number_of" (defScope s_Rows_number_of) (He.ma K (He.ga K "Rows") "number_of") cdv A outer s H E) rfl rfl rfl rfl
  have po := passes_of (X := cxOf (L2.CX P w) P w K mg base ["self", "row"] "Rows.number_of" (defScope s_Rows_number_of) (He.ma K (He.ga K "Rows") "number_of") cdv A outer s H E) rfl
  exact (oss_cons (os_if (ot_notInT hr.r (oe_var 1) (oe_fld T.c_Rows T.n_Rows_found (oe_var 0))) (oss_cons (os_putT hr.r (oe_fld T.c_Rows T.n_Rows_found (oe_var 0)) (oe_var 1) (oe_len T.f_len (oe_fld T.c_Rows T.n_Rows_listed (oe_var 0)))) (oss_one (os_expr (oe_append (oe_fld T.c_Rows T.n_Rows_listed (oe_var 0)) (oe_var 1))))) oss_nil) (oss_one (os_ret (oe_itemT hr.r (oe_fld T.c_Rows T.n_Rows_found (oe_var 0)) (oe_var 1)))))
theorem sc_read_into : FnScope ["rows", "text", "told", "opened", "at", "sign"] ["rows", "text"] (defScope s_read_into) := ⟨rfl, rfl, rfl, by decide +kernel, rfl, by decide +kernel, by decide +kernel⟩
theorem g_read_into (T : Tp w K mg base) : GF P w K mg base "read_into" (defArgs s_read_into) ["rows", "text"] 2 m_read_into := by
  obtain ⟨fd, F⟩ := T.d_read_into
  refine ⟨T.g_read_into, F.kp, fd, ?_, FunD.bindsN F (fun _ _ _ _ _ _ us hl => match us, hl with | [_, _], _ => rfl), Mir.FunD.hasPar F, Mir.FunD.at_ F⟩
  refine fn_ok (k := 1) F sc_read_into rfl fun cdv A outer s H E hr => ?_
  have nd := sc_read_into.nd
  have tk := takes_of (X := cxOf (L2.CX P w) P w K mg base ["rows", "text", "told", "opened", "at", "sign"] "read_into" (defScope s_read_into) (He.ga K "read_into") cdv A outer s H E) rfl rfl rfl rfl
  have po := passes_of (X := cxOf (L2.CX P w) P w K mg base ["rows", "text", "told", "opened", "at", "sign"] "read_into" (defScope s_read_into) (He.ga K "read_into") cdv A outer s H E) rfl
  exact (oss_cons (os_par3 (i := 2) (j := 3) (l := 4) rfl nd (oa_cons oe_non (oa_cons (oe_lstC oa_nil) (oa_cons oe_int oa_nil)))) (oss_cons (os_while 1000 po (ot_lt (oe_var 4) (oe_len T.f_len (oe_var 1))) (oss_cons (os_set (i := 5) nd (oe_it (oe_var 1) (oe_var 4))) (oss_one (os_if (ot_w (ow_and (ot_isN (oe_var 2)) (ow_and1 (ot_in2 hr.r (oe_var 5) (oe_gV T.v_PLAIN))))) (oss_one (os_par (i := 2) (j := 4) rfl nd (oa_cons (oe_meth (g_Rows_number_of T) hr (by decide) tk (oe_var 0) (oa_cons (oe_tupT (oa_cons (oe_var 5) oa_nil)) oa_nil)) (oa_cons (oe_add (oe_var 4) oe_int) oa_nil)))) (oss_one (os_if (ot_w (ow_and (ot_isN (oe_var 2)) (ow_and (ot_in2 hr.r (oe_var 5) (oe_gV T.v_DEEDS)) (ow_and1 (ot_eq hr.r (oe_slice (oe_var 1) (oo_some (oe_add (oe_var 4) oe_int)) (oo_some (oe_add (oe_var 4) oe_int))) oe_str))))) (oss_cons (os_expr (oe_append (oe_var 3) (oe_tup (oa_cons (oe_var 5) oa_nil)))) (oss_one (os_set (i := 4) nd (oe_add (oe_var 4) oe_int)))) (oss_one (os_if (ot_w (ow_and (ot_isN (oe_var 2)) (ow_and1 (ot_eq hr.r (oe_var 5) oe_str)))) (oss_cons (os_expr (oe_append (oe_var 3) (oe_tup (oa_cons oe_str oa_nil)))) (oss_one (os_set (i := 4) nd (oe_add (oe_var 4) oe_int)))) (oss_one (os_if (ot_w (ow_or (ot_isN (oe_var 2)) (ow_or1 (ot_eq hr.r (oe_var 3) (oe_lst oa_nil))))) (oss_one (os_ret oe_non)) (oss_one (os_if (ot_w (ow_and (ot_eq hr.r (oe_var 5) oe_str) (ow_and1 (ot_ne hr.r (oe_it (oe_it (oe_var 3) (oe_neg oe_int)) oe_int) oe_str)))) (oss_one (os_par (i := 2) (j := 4) rfl nd (oa_cons (oe_meth (g_Rows_number_of T) hr (by decide) tk (oe_var 0) (oa_cons (oe_tupT (oa_star (oe_pop (oe_var 3)) (oa_cons (oe_var 2) oa_nil))) oa_nil)) (oa_cons (oe_add (oe_var 4) oe_int) oa_nil)))) (oss_one (os_if (ot_w (ow_and (ot_eq hr.r (oe_it (oe_var 3) (oe_neg oe_int)) (oe_tup (oa_cons oe_str oa_nil))) (ow_and1 (ot_in2 hr.r (oe_slice (oe_var 1) (oo_some (oe_var 4)) (oo_some (oe_add (oe_var 4) oe_int))) (oe_tup (oa_cons oe_str (oa_cons oe_str oa_nil))))))) (oss_cons (os_asg (oe_tup (oa_cons (oe_it (oe_var 1) (oe_add (oe_var 4) oe_int)) (oa_cons (oe_var 2) oa_nil))) (og_sub (oe_var 3) (oe_neg oe_int))) (oss_one (os_par (i := 2) (j := 4) rfl nd (oa_cons oe_non (oa_cons (oe_add (oe_var 4) oe_int) oa_nil))))) (oss_one (os_ret oe_non)))))))))))))))) (oss_one (os_ret (oe_if (ot_eq hr.r (oe_var 3) (oe_lst oa_nil)) (oe_var 2) oe_non)))))
theorem sc_Rows___init__ : FnScope ["self"] ["self"] (defScope s_Rows___init__) := ⟨rfl, rfl, rfl, by decide +kernel, rfl, by decide +kernel, by decide +kernel⟩
theorem g_Rows___init__ (T : Tp w K mg base) : GC P w K mg base "Rows" (defArgs s_Rows___init__) ["self"] 1 m_Rows___init__ := by
  obtain ⟨fd, F⟩ := T.d_Rows___init__
  refine ⟨T.g_Rows, T.mk_Rows, fd, ?_, FunD.bindsN F (fun _ _ _ _ _ _ us hl => match us, hl with | [_], _ => rfl), Mir.FunD.hasPar F⟩
  refine fn_ok (k := 0) F sc_Rows___init__ rfl fun cdv A outer s H E hr => ?_
  have nd := sc_Rows___init__.nd
  have tk := takes_of (X := cxOf (L2.CX P w) P w K mg base ["self"] "Rows.__init__" (defScope s_Rows___init__) (He.ma K (He.ga K "Rows") "__init__") cdv A outer s H E) rfl rfl rfl rfl
  have po := passes_of (X := cxOf (L2.CX P w) P w K mg base ["self"] "Rows.__init__" (defScope s_Rows___init__) (He.ma K (He.ga K "Rows") "__init__") cdv A outer s H E) rfl
  exact (oss_one (os_parG rfl (oa_cons (oe_lstR 2 (idle_var 0)) (oa_cons (oe_dctR 1 (idle_var 0)) oa_nil)) (ogs_cons (og_fld T.c_Rows T.n_Rows_listed (oe_var 0)) (ogs_cons (og_fld T.c_Rows T.n_Rows_found (oe_var 0)) ogs_nil))))
theorem sc_is_text : FnScope ["text"] ["text"] (defScope s_is_text) := ⟨rfl, rfl, rfl, by decide +kernel, rfl, by decide +kernel, by decide +kernel⟩
theorem g_is_text (T : Tp w K mg base) : GF P w K mg base "is_text" (defArgs s_is_text) ["text"] 3 m_is_text := by
  obtain ⟨fd, F⟩ := T.d_is_text
  refine ⟨T.g_is_text, F.kp, fd, ?_, FunD.bindsN F (fun _ _ _ _ _ _ us hl => match us, hl with | [_], _ => rfl), Mir.FunD.hasPar F, Mir.FunD.at_ F⟩
  refine fn_ok (k := 2) F sc_is_text rfl fun cdv A outer s H E hr => ?_
  have nd := sc_is_text.nd
  have tk := takes_of (X := cxOf (L2.CX P w) P w K mg base ["text"] "is_text" (defScope s_is_text) (He.ga K "is_text") cdv A outer s H E) rfl rfl rfl rfl
  have po := passes_of (X := cxOf (L2.CX P w) P w K mg base ["text"] "is_text" (defScope s_is_text) (He.ga K "is_text") cdv A outer s H E) rfl
  exact (oss_one (os_ret (oe_and (oe_isi T.isi T.f_isinstance (oe_var 0) (oe_bT T.f_str)) (oe_and (oe_le (oe_len T.f_len (oe_var 0)) (oe_gV T.v_MOST_SIGNS)) (oe_one (oe_notN (oe_fn (g_read_into T) hr (by decide) tk (oa_cons (oe_makeR 2 (g_Rows___init__ T) hr (by decide) tk) (oa_cons (oe_var 0) oa_nil)))))))))
theorem sc_Term___init__ : FnScope ["self", "text"] ["self", "text"] (defScope s_Term___init__) := ⟨rfl, rfl, rfl, by decide +kernel, rfl, by decide +kernel, by decide +kernel⟩
theorem g_Term___init__ (T : Tp w K mg base) : GC P w K mg base "Term" (defArgs s_Term___init__) ["self", "text"] 4 m_Term___init__ := by
  obtain ⟨fd, F⟩ := T.d_Term___init__
  refine ⟨T.g_Term, T.mk_Term, fd, ?_, FunD.bindsN F (fun _ _ _ _ _ _ us hl => match us, hl with | [_, _], _ => rfl), Mir.FunD.hasPar F⟩
  refine fn_ok (k := 3) F sc_Term___init__ rfl fun cdv A outer s H E hr => ?_
  have nd := sc_Term___init__.nd
  have tk := takes_of (X := cxOf (L2.CX P w) P w K mg base ["self", "text"] "Term.__init__" (defScope s_Term___init__) (He.ma K (He.ga K "Term") "__init__") cdv A outer s H E) rfl rfl rfl rfl
  have po := passes_of (X := cxOf (L2.CX P w) P w K mg base ["self", "text"] "Term.__init__" (defScope s_Term___init__) (He.ma K (He.ga K "Term") "__init__") cdv A outer s H E) rfl
  exact (oss_cons (os_if (ot_not (ot_val (oe_fn (g_is_text T) hr (by decide) tk (oa_cons (oe_var 1) oa_nil)))) (oss_one (os_raise (x_InvalidText T) hr (by decide) rfl tk (oa_cons (oe_var 1) oa_nil))) oss_nil) (oss_one (os_asg (oe_var 1) (og_fld T.c_Term T.n_Term_told (oe_var 0)))))
theorem sc__law_term : FnScope ["_law_jar_here", "_law_signs", "_law_most", "_law_deep", "_law_way", "_law_first", "_law_used", "_law_mark"] ["_law_jar_here", "_law_signs", "_law_most", "_law_deep"] (defScope s__law_term) := ⟨rfl, rfl, rfl, by decide +kernel, rfl, by decide +kernel, by decide +kernel⟩
theorem g__law_term (T : Tp w K mg base) : ∀ n : Nat, GF P w K mg base "_law_term" (defArgs s__law_term) ["_law_jar_here", "_law_signs", "_law_most", "_law_deep"] (3 + n) (m__law_term n)
  | 0 => by
    obtain ⟨fd, F⟩ := T.d__law_term
    exact ⟨T.g__law_term, F.kp, fd, fn_bad, FunD.bindsN F (fun _ _ _ _ _ _ us hl => match us, hl with | [_, _, _, _], _ => rfl), Mir.FunD.hasPar F, Mir.FunD.at_ F⟩
  | n + 1 => by
    have G_ := g__law_term T n
    obtain ⟨fd, F⟩ := T.d__law_term
    refine ⟨T.g__law_term, F.kp, fd, ?_, FunD.bindsN F (fun _ _ _ _ _ _ us hl => match us, hl with | [_, _, _, _], _ => rfl), Mir.FunD.hasPar F, Mir.FunD.at_ F⟩
    refine fn_ok (k := 3 + n) F sc__law_term rfl fun cdv A outer s H E hr => ?_
    have nd := sc__law_term.nd
    have tk := takes_of (X := cxOf (L2.CX P w) P w K mg base ["_law_jar_here", "_law_signs", "_law_most", "_law_deep", "_law_way", "_law_first", "_law_used", "_law_mark"] "_law_term" (defScope s__law_term) (He.ga K "_law_term") cdv A outer s H E) rfl rfl rfl rfl
    have po := passes_of (X := cxOf (L2.CX P w) P w K mg base ["_law_jar_here", "_law_signs", "_law_most", "_law_deep", "_law_way", "_law_first", "_law_used", "_law_mark"] "_law_term" (defScope s__law_term) (He.ga K "_law_term") cdv A outer s H E) rfl
    exact (oss_cons (os_set (i := 4) nd (oe_fn (g__law_dig T) hr (by omega) tk (oa_cons (oe_var 0) (oa_cons oe_int oa_nil)))) (oss_cons (os_if (ot_w (ow_or (ot_eq hr.r (oe_var 3) oe_int) (ow_or1 (ot_eq hr.r (oe_var 4) oe_int)))) (oss_one (os_ret (oe_if (ot_eq hr.r (oe_fn (g__law_dig T) hr (by omega) tk (oa_cons (oe_var 0) (oa_cons oe_int oa_nil))) oe_int) (oe_fn (g__law_take T) hr (by omega) tk (oa_cons (oe_var 0) (oa_cons (oe_add (oe_var 1) (oe_lst (oa_cons oe_str (oa_cons oe_str oa_nil)))) oa_nil))) (oe_fn (g__law_take T) hr (by omega) tk (oa_cons (oe_var 0) (oa_cons (oe_var 1) oa_nil)))))) oss_nil) (oss_cons (os_if (ot_w (ow_and (ot_lt (oe_var 4) oe_int) (ow_and1 (ot_gt (oe_var 2) oe_int)))) (oss_one (os_ret (oe_add (oe_add (oe_add (oe_fn (g__law_take T) hr (by omega) tk (oa_cons (oe_var 0) (oa_cons (oe_lst (oa_cons oe_str (oa_cons oe_str oa_nil))) oa_nil))) oe_str) (oe_fn G_ hr (by omega) tk (oa_cons (oe_var 0) (oa_cons (oe_var 1) (oa_cons (oe_sub (oe_var 2) oe_int) (oa_cons (oe_sub (oe_var 3) oe_int) oa_nil)))))) oe_str))) oss_nil) (oss_cons (os_if (ot_lt (oe_var 4) oe_int) (oss_one (os_ret (oe_add (oe_add oe_str (oe_fn G_ hr (by omega) tk (oa_cons (oe_var 0) (oa_cons (oe_var 1) (oa_cons (oe_var 2) (oa_cons (oe_sub (oe_var 3) oe_int) oa_nil)))))) oe_str))) oss_nil) (oss_cons (os_set (i := 5) nd (oe_fn G_ hr (by omega) tk (oa_cons (oe_var 0) (oa_cons (oe_var 1) (oa_cons (oe_fdiv (oe_var 2) oe_int) (oa_cons (oe_sub (oe_var 3) oe_int) oa_nil)))))) (oss_cons (os_set (i := 6) nd (oe_add (oe_count (oe_var 5) oe_str) (oe_count (oe_var 5) oe_str))) (oss_cons (os_set (i := 7) nd (oe_fn (g__law_take T) hr (by omega) tk (oa_cons (oe_var 0) (oa_cons (oe_lst (oa_cons oe_str (oa_cons oe_str oa_nil))) oa_nil)))) (oss_one (os_ret (oe_add (oe_add (oe_add (oe_add oe_str (oe_var 5)) (oe_var 7)) (oe_fn G_ hr (by omega) tk (oa_cons (oe_var 0) (oa_cons (oe_var 1) (oa_cons (oe_sub (oe_var 2) (oe_var 6)) (oa_cons (oe_sub (oe_var 3) oe_int) oa_nil)))))) oe_str))))))))))
theorem sc__law_sort : FnScope ["_law_e", "_law_found"] ["_law_e"] (defScope s__law_sort) := ⟨rfl, rfl, rfl, by decide +kernel, rfl, by decide +kernel, by decide +kernel⟩
theorem x__law_sort (T : Tp w K mg base) : GE P w K mg base "_law_sort" m__law_sort := by
  obtain ⟨fd, F⟩ := T.d__law_sort
  have nd := sc__law_sort.nd
  refine ⟨T.g__law_sort, F.kp, fn_okE (nl := 1) (m := bodyX exK k__law_sort) F sc__law_sort rfl (FunD.bindsN F (fun _ _ _ _ _ _ us hl => match us, hl with | [_], _ => rfl)) (fun cdv A outer s H hu => ?_) (fun a c x S d S' h => sort_ok a c x S d S' h) (fun c x S c' x' S' => sort_nx c x S c' x' S')⟩
  exact (osx_cons (osx_of fun _ _ _ => os_set (i := 1) nd (oe_lstC oa_nil)) (osx_cons (osx_if (otx_val (oex_isiT T.kt rfl (by first | exact Or.inl rfl | exact Or.inr (Or.inl rfl) | exact Or.inr (Or.inr rfl)) T.f_isinstance T.g_NotATerm)) (osx_cons (osx_expr (oex_app (fun _ _ _ => oe_var 1) (oex_tup (oax_cons (oex_of fun _ _ _ => oe_str) (oax_cons (oex_fld T.xk_NotATerm.xf T.xn_NotATerm_given rfl (by first | exact Or.inl rfl | exact Or.inr (Or.inl rfl) | exact Or.inr (Or.inr rfl))) oax_nil))))) osx_nil)) (osx_cons (osx_if (otx_val (oex_isiT T.kt rfl (by first | exact Or.inl rfl | exact Or.inr (Or.inl rfl) | exact Or.inr (Or.inr rfl)) T.f_isinstance T.g_NotASpace)) (osx_cons (osx_expr (oex_app (fun _ _ _ => oe_var 1) (oex_tup (oax_cons (oex_of fun _ _ _ => oe_str) (oax_cons (oex_fld T.xk_NotASpace.xf T.xn_NotASpace_given rfl (by first | exact Or.inl rfl | exact Or.inr (Or.inl rfl) | exact Or.inr (Or.inr rfl))) oax_nil))))) osx_nil)) (osx_cons (osx_if (otx_val (oex_isiT T.kt rfl (by first | exact Or.inl rfl | exact Or.inr (Or.inl rfl) | exact Or.inr (Or.inr rfl)) T.f_isinstance T.g_InvalidKind)) (osx_cons (osx_expr (oex_app (fun _ _ _ => oe_var 1) (oex_tup (oax_cons (oex_of fun _ _ _ => oe_str) (oax_cons (oex_fld T.xk_InvalidKind.xf T.xn_InvalidKind_given rfl (by first | exact Or.inl rfl | exact Or.inr (Or.inl rfl) | exact Or.inr (Or.inr rfl))) oax_nil))))) osx_nil)) (osx_cons (osx_if (otx_val (oex_isiT T.kt rfl (by first | exact Or.inl rfl | exact Or.inr (Or.inl rfl) | exact Or.inr (Or.inr rfl)) T.f_isinstance T.g_InvalidSet)) (osx_cons (osx_expr (oex_app (fun _ _ _ => oe_var 1) (oex_tup (oax_cons (oex_of fun _ _ _ => oe_str) (oax_cons (oex_fld T.xk_InvalidSet.xf T.xn_InvalidSet_given rfl (by first | exact Or.inl rfl | exact Or.inr (Or.inl rfl) | exact Or.inr (Or.inr rfl))) oax_nil))))) osx_nil)) (osx_cons (osx_if (otx_val (oex_isiT T.kt rfl (by first | exact Or.inl rfl | exact Or.inr (Or.inl rfl) | exact Or.inr (Or.inr rfl)) T.f_isinstance T.g_InvalidWord)) (osx_cons (osx_expr (oex_app (fun _ _ _ => oe_var 1) (oex_tup (oax_cons (oex_of fun _ _ _ => oe_str) (oax_cons (oex_fld T.xk_InvalidWord.xf T.xn_InvalidWord_given rfl (by first | exact Or.inl rfl | exact Or.inr (Or.inl rfl) | exact Or.inr (Or.inr rfl))) oax_nil))))) osx_nil)) (osx_cons (osx_if (otx_val (oex_isiT T.kt rfl (by first | exact Or.inl rfl | exact Or.inr (Or.inl rfl) | exact Or.inr (Or.inr rfl)) T.f_isinstance T.g_InvalidNumber)) (osx_cons (osx_expr (oex_app (fun _ _ _ => oe_var 1) (oex_tup (oax_cons (oex_of fun _ _ _ => oe_str) (oax_cons (oex_fld T.xk_InvalidNumber.xf T.xn_InvalidNumber_given rfl (by first | exact Or.inl rfl | exact Or.inr (Or.inl rfl) | exact Or.inr (Or.inr rfl))) oax_nil))))) osx_nil)) (osx_cons (osx_if (otx_val (oex_isiT T.kt rfl (by first | exact Or.inl rfl | exact Or.inr (Or.inl rfl) | exact Or.inr (Or.inr rfl)) T.f_isinstance T.g_InvalidPremises)) (osx_cons (osx_expr (oex_app (fun _ _ _ => oe_var 1) (oex_tup (oax_cons (oex_of fun _ _ _ => oe_str) (oax_cons (oex_fld T.xk_InvalidPremises.xf T.xn_InvalidPremises_index rfl (by first | exact Or.inl rfl | exact Or.inr (Or.inl rfl) | exact Or.inr (Or.inr rfl))) oax_nil))))) osx_nil)) (osx_cons (osx_if (otx_val (oex_isiT T.kt rfl (by first | exact Or.inl rfl | exact Or.inr (Or.inl rfl) | exact Or.inr (Or.inr rfl)) T.f_isinstance T.g_TooMany)) (osx_cons (osx_expr (oex_app (fun _ _ _ => oe_var 1) (oex_tup (oax_cons (oex_of fun _ _ _ => oe_str) (oax_cons (oex_fld T.xk_TooMany.xf T.xn_TooMany_limit rfl (by first | exact Or.inl rfl | exact Or.inr (Or.inl rfl) | exact Or.inr (Or.inr rfl))) oax_nil))))) osx_nil)) (osx_cons (osx_of fun _ _ _ => os_ret (oe_if (ot_cmp (op_eqD hu) ok_eqD (oe_len T.f_len (oe_var 1)) oe_int (nomark _)) (oe_it (oe_var 1) oe_int) oe_non)) osx_nil))))))))))
theorem sc__law_caught : FnScope ["_law_act", "_law_e", "_law_given"] ["_law_act"] (defScope s__law_caught) := ⟨rfl, rfl, rfl, by decide +kernel, rfl, by decide +kernel, by decide +kernel⟩
theorem j__law_caught (T : Tp w K mg base) (n : Nat) : GJ P w K mg base "_law_caught" (2 + n) exT 3 (some 2) hs__law_caught mr__law_caught := by
  obtain ⟨fd, F⟩ := T.d__law_caught
  refine ⟨"_law_act", _, _, fd, ["_law_act", "_law_e", "_law_given"], _, _, _, _, ⟨430, 21, 430, 29⟩, ⟨430, 21, 430, 31⟩, ⟨429, 4, 432, 32⟩, F, T.g__law_caught, FunD.bindsN F (fun _ _ _ _ _ _ us hl => match us, hl with | [_], _ => rfl), sc__law_caught, rfl, rfl, (by first | exact Or.inl rfl | exact Or.inr (Or.inl rfl) | exact Or.inr (Or.inr rfl)), by decide, by decide, T.sb, fun A outer cdv s H E pn xe t pe => ?_, fun A outer cdv s H E hr => ?_, fun A outer cdv s H E hr => ?_⟩
  · exact jst_set sc__law_caught.nd pe rfl (by first | exact Or.inl rfl | exact Or.inr rfl) rfl (by first | exact .inl rfl | exact .inr rfl)
  · have hr := hr.mono (show 2 ≤ _ by omega)
    have nd := sc__law_caught.nd
    have tk := takes_of (X := cxOf (L2.CX P w) P w K mg base ["_law_act", "_law_e", "_law_given"] "_law_caught" (defScope s__law_caught) (He.ga K "_law_caught") cdv A outer s H E) rfl rfl rfl rfl
    have po := passes_of (X := cxOf (L2.CX P w) P w K mg base ["_law_act", "_law_e", "_law_given"] "_law_caught" (defScope s__law_caught) (He.ga K "_law_caught") cdv A outer s H E) rfl
    unfold hs__law_caught
    exact (.tup ⟨rfl, by decide, .inl T.g_WrongValue⟩ ⟨rfl, by decide, .inl T.g_WrongName⟩ ⟨rfl, by decide, .inl T.g_NoAnswer⟩ (sb_ok T.sb rfl) (sb_ok T.sb rfl) (sb_ok T.sb rfl) nd rfl rfl (ox_retE (x__law_sort T) rfl rfl hr (by decide) rfl (by first | exact Or.inl rfl | exact Or.inr (Or.inl rfl) | exact Or.inr (Or.inr rfl))) .nil)
  · have hr := hr.mono (show 2 ≤ _ by omega)
    have nd := sc__law_caught.nd
    have tk := takes_of (X := cxOf (L2.CX P w) P w K mg base ["_law_act", "_law_e", "_law_given"] "_law_caught" (defScope s__law_caught) (He.ga K "_law_caught") cdv A outer s H E) rfl rfl rfl rfl
    have po := passes_of (X := cxOf (L2.CX P w) P w K mg base ["_law_act", "_law_e", "_law_given"] "_law_caught" (defScope s__law_caught) (He.ga K "_law_caught") cdv A outer s H E) rfl
    exact (oss_one (os_ret (oe_tup (oa_cons oe_str (oa_cons (oe_var 2) oa_nil)))))
theorem sc_check_term : FnScope ["value"] ["value"] (defScope s_check_term) := ⟨rfl, rfl, rfl, by decide +kernel, rfl, by decide +kernel, by decide +kernel⟩
theorem g_check_term (T : Tp w K mg base) : GF P w K mg base "check_term" (defArgs s_check_term) ["value"] 3 m_check_term := by
  obtain ⟨fd, F⟩ := T.d_check_term
  refine ⟨T.g_check_term, F.kp, fd, ?_, FunD.bindsN F (fun _ _ _ _ _ _ us hl => match us, hl with | [_], _ => rfl), Mir.FunD.hasPar F, Mir.FunD.at_ F⟩
  refine fn_ok (k := 2) F sc_check_term rfl fun cdv A outer s H E hr => ?_
  have nd := sc_check_term.nd
  have tk := takes_of (X := cxOf (L2.CX P w) P w K mg base ["value"] "check_term" (defScope s_check_term) (He.ga K "check_term") cdv A outer s H E) rfl rfl rfl rfl
  have po := passes_of (X := cxOf (L2.CX P w) P w K mg base ["value"] "check_term" (defScope s_check_term) (He.ga K "check_term") cdv A outer s H E) rfl
  exact (oss_one (os_if (ot_not (ot_val (oe_isi T.isi T.f_isinstance (oe_var 0) (oe_gC T.g_Term)))) (oss_one (os_raise (x_NotATerm T) hr (by decide) rfl tk (oa_cons (oe_var 0) oa_nil))) oss_nil))
theorem sc_check_kind : FnScope ["kind"] ["kind"] (defScope s_check_kind) := ⟨rfl, rfl, rfl, by decide +kernel, rfl, by decide +kernel, by decide +kernel⟩
theorem g_check_kind (T : Tp w K mg base) : GF P w K mg base "check_kind" (defArgs s_check_kind) ["kind"] 3 m_check_kind := by
  obtain ⟨fd, F⟩ := T.d_check_kind
  refine ⟨T.g_check_kind, F.kp, fd, ?_, FunD.bindsN F (fun _ _ _ _ _ _ us hl => match us, hl with | [_], _ => rfl), Mir.FunD.hasPar F, Mir.FunD.at_ F⟩
  refine fn_ok (k := 2) F sc_check_kind rfl fun cdv A outer s H E hr => ?_
  have nd := sc_check_kind.nd
  have tk := takes_of (X := cxOf (L2.CX P w) P w K mg base ["kind"] "check_kind" (defScope s_check_kind) (He.ga K "check_kind") cdv A outer s H E) rfl rfl rfl rfl
  have po := passes_of (X := cxOf (L2.CX P w) P w K mg base ["kind"] "check_kind" (defScope s_check_kind) (He.ga K "check_kind") cdv A outer s H E) rfl
  exact (oss_one (os_if (ot_w (ow_or (ot_not (ot_val (oe_isi T.isi T.f_isinstance (oe_var 0) (oe_bT T.f_str)))) (ow_or1 (ot_notIn2 hr.r (oe_var 0) (oe_gV T.v_KINDS))))) (oss_one (os_raise (x_InvalidKind T) hr (by decide) rfl tk (oa_cons (oe_var 0) oa_nil))) oss_nil))
theorem sc_is_integer : FnScope ["value"] ["value"] (defScope s_is_integer) := ⟨rfl, rfl, rfl, by decide +kernel, rfl, by decide +kernel, by decide +kernel⟩
theorem g_is_integer (T : Tp w K mg base) : GF P w K mg base "is_integer" (defArgs s_is_integer) ["value"] 1 m_is_integer := by
  obtain ⟨fd, F⟩ := T.d_is_integer
  refine ⟨T.g_is_integer, F.kp, fd, ?_, FunD.bindsN F (fun _ _ _ _ _ _ us hl => match us, hl with | [_], _ => rfl), Mir.FunD.hasPar F, Mir.FunD.at_ F⟩
  refine fn_ok (k := 0) F sc_is_integer rfl fun cdv A outer s H E hr => ?_
  have nd := sc_is_integer.nd
  have tk := takes_of (X := cxOf (L2.CX P w) P w K mg base ["value"] "is_integer" (defScope s_is_integer) (He.ga K "is_integer") cdv A outer s H E) rfl rfl rfl rfl
  have po := passes_of (X := cxOf (L2.CX P w) P w K mg base ["value"] "is_integer" (defScope s_is_integer) (He.ga K "is_integer") cdv A outer s H E) rfl
  exact (oss_one (os_ret (oe_and (oe_isi T.isi T.f_isinstance (oe_var 0) (oe_bT T.f_int)) (oe_one (oe_not (oe_isi T.isi T.f_isinstance (oe_var 0) (oe_bT T.f_bool)))))))
theorem sc_is_between : FnScope ["value", "low", "high"] ["value", "low", "high"] (defScope s_is_between) := ⟨rfl, rfl, rfl, by decide +kernel, rfl, by decide +kernel, by decide +kernel⟩
theorem g_is_between (T : Tp w K mg base) : GF P w K mg base "is_between" (defArgs s_is_between) ["value", "low", "high"] 2 m_is_between := by
  obtain ⟨fd, F⟩ := T.d_is_between
  refine ⟨T.g_is_between, F.kp, fd, ?_, FunD.bindsN F (fun _ _ _ _ _ _ us hl => match us, hl with | [_, _, _], _ => rfl), Mir.FunD.hasPar F, Mir.FunD.at_ F⟩
  refine fn_ok (k := 1) F sc_is_between rfl fun cdv A outer s H E hr => ?_
  have nd := sc_is_between.nd
  have tk := takes_of (X := cxOf (L2.CX P w) P w K mg base ["value", "low", "high"] "is_between" (defScope s_is_between) (He.ga K "is_between") cdv A outer s H E) rfl rfl rfl rfl
  have po := passes_of (X := cxOf (L2.CX P w) P w K mg base ["value", "low", "high"] "is_between" (defScope s_is_between) (He.ga K "is_between") cdv A outer s H E) rfl
  exact (oss_one (os_ret (oe_and (oe_fn (g_is_integer T) hr (by decide) tk (oa_cons (oe_var 0) oa_nil)) (oe_one (oe_lele (oe_var 1) (oe_var 0) (oe_var 2))))))
theorem sc_check_listed : FnScope ["number"] ["number"] (defScope s_check_listed) := ⟨rfl, rfl, rfl, by decide +kernel, rfl, by decide +kernel, by decide +kernel⟩
theorem g_check_listed (T : Tp w K mg base) : GF P w K mg base "check_listed" (defArgs s_check_listed) ["number"] 3 m_check_listed := by
  obtain ⟨fd, F⟩ := T.d_check_listed
  refine ⟨T.g_check_listed, F.kp, fd, ?_, FunD.bindsN F (fun _ _ _ _ _ _ us hl => match us, hl with | [_], _ => rfl), Mir.FunD.hasPar F, Mir.FunD.at_ F⟩
  refine fn_ok (k := 2) F sc_check_listed rfl fun cdv A outer s H E hr => ?_
  have nd := sc_check_listed.nd
  have tk := takes_of (X := cxOf (L2.CX P w) P w K mg base ["number"] "check_listed" (defScope s_check_listed) (He.ga K "check_listed") cdv A outer s H E) rfl rfl rfl rfl
  have po := passes_of (X := cxOf (L2.CX P w) P w K mg base ["number"] "check_listed" (defScope s_check_listed) (He.ga K "check_listed") cdv A outer s H E) rfl
  exact (oss_one (os_if (ot_not (ot_val (oe_fn (g_is_between T) hr (by decide) tk (oa_cons (oe_var 0) (oa_cons oe_int (oa_cons (oe_gV T.v_MOST_LISTED) oa_nil)))))) (oss_one (os_raise (x_InvalidNumber T) hr (by decide) rfl tk (oa_cons (oe_var 0) oa_nil))) oss_nil))
theorem sc_indexes_of : FnScope ["bits", "at"] ["bits"] (defScope s_indexes_of) := ⟨rfl, rfl, rfl, by decide +kernel, rfl, by decide +kernel, by decide +kernel⟩
theorem g_indexes_of (T : Tp w K mg base) : GF P w K mg base "indexes_of" (defArgs s_indexes_of) ["bits"] 1 m_indexes_of := by
  obtain ⟨fd, F⟩ := T.d_indexes_of
  refine ⟨T.g_indexes_of, F.kp, fd, ?_, FunD.bindsN F (fun _ _ _ _ _ _ us hl => match us, hl with | [_], _ => rfl), Mir.FunD.hasPar F, Mir.FunD.at_ F⟩
  refine fn_ok (k := 0) F sc_indexes_of rfl fun cdv A outer s H E hr => ?_
  have nd := sc_indexes_of.nd
  have tk := takes_of (X := cxOf (L2.CX P w) P w K mg base ["bits", "at"] "indexes_of" (defScope s_indexes_of) (He.ga K "indexes_of") cdv A outer s H E) rfl rfl rfl rfl
  have po := passes_of (X := cxOf (L2.CX P w) P w K mg base ["bits", "at"] "indexes_of" (defScope s_indexes_of) (He.ga K "indexes_of") cdv A outer s H E) rfl
  exact (oss_one (os_ret (oe_lc rfl nd (oi_range1 T.f_range (oe_bits (oe_var 0))) (own := [("at", 1)]) (blkOk_by rfl) (by decide) (fun _ _ _ _ _ => (og_name nd)) (fun _ _ _ _ _ => ots_one (ot_eq hr.r (oe_band (oe_shr (oe_var 0) (oe_var 1)) oe_int) oe_int)) (fun _ _ _ _ _ => (oe_var 1)))))
theorem sc_is_seeing : FnScope ["near", "at", "bits", "other"] ["near"] (defScope s_is_seeing) := ⟨rfl, rfl, rfl, by decide +kernel, rfl, by decide +kernel, by decide +kernel⟩
theorem g_is_seeing (T : Tp w K mg base) : GF P w K mg base "is_seeing" (defArgs s_is_seeing) ["near"] 2 m_is_seeing := by
  obtain ⟨fd, F⟩ := T.d_is_seeing
  refine ⟨T.g_is_seeing, F.kp, fd, ?_, FunD.bindsN F (fun _ _ _ _ _ _ us hl => match us, hl with | [_], _ => rfl), Mir.FunD.hasPar F, Mir.FunD.at_ F⟩
  refine fn_ok (k := 1) F sc_is_seeing rfl fun cdv A outer s H E hr => ?_
  have nd := sc_is_seeing.nd
  have tk := takes_of (X := cxOf (L2.CX P w) P w K mg base ["near", "at", "bits", "other"] "is_seeing" (defScope s_is_seeing) (He.ga K "is_seeing") cdv A outer s H E) rfl rfl rfl rfl
  have po := passes_of (X := cxOf (L2.CX P w) P w K mg base ["near", "at", "bits", "other"] "is_seeing" (defScope s_is_seeing) (He.ga K "is_seeing") cdv A outer s H E) rfl
  exact (oss_cons (os_for po rfl (oi_enum T.f_enumerate (oe_var 0)) (og_tup rfl (ogs_cons (og_name nd) (ogs_cons (og_name nd) ogs_nil))) (oss_one (os_if (ot_w (ow_or (ot_eq hr.r (oe_band (oe_shr (oe_var 2) (oe_var 1)) oe_int) oe_int) (ow_or1 (ot_val (oe_any rfl T.f_any (oe_lc rfl nd (oi_of (oe_fn (g_indexes_of T) hr (by decide) tk (oa_cons (oe_var 2) oa_nil))) (own := [("other", 3)]) (blkOk_by rfl) (by decide) (fun _ _ _ _ _ => (og_name nd)) (fun _ _ _ _ _ => ots_nil) (fun _ _ _ _ _ => (oe_ne hr.r (oe_band (oe_it (oe_var 0) (oe_var 3)) (oe_inv (oe_var 2))) oe_int)))))))) (oss_one (os_ret oe_bl)) oss_nil))) (oss_one (os_ret oe_bl)))
theorem sc_is_meeting : FnScope ["near", "bits", "some", "one", "other"] ["near"] (defScope s_is_meeting) := ⟨rfl, rfl, rfl, by decide +kernel, rfl, by decide +kernel, by decide +kernel⟩
theorem g_is_meeting (T : Tp w K mg base) : GF P w K mg base "is_meeting" (defArgs s_is_meeting) ["near"] 2 m_is_meeting := by
  obtain ⟨fd, F⟩ := T.d_is_meeting
  refine ⟨T.g_is_meeting, F.kp, fd, ?_, FunD.bindsN F (fun _ _ _ _ _ _ us hl => match us, hl with | [_], _ => rfl), Mir.FunD.hasPar F, Mir.FunD.at_ F⟩
  refine fn_ok (k := 1) F sc_is_meeting rfl fun cdv A outer s H E hr => ?_
  have nd := sc_is_meeting.nd
  have tk := takes_of (X := cxOf (L2.CX P w) P w K mg base ["near", "bits", "some", "one", "other"] "is_meeting" (defScope s_is_meeting) (He.ga K "is_meeting") cdv A outer s H E) rfl rfl rfl rfl
  have po := passes_of (X := cxOf (L2.CX P w) P w K mg base ["near", "bits", "some", "one", "other"] "is_meeting" (defScope s_is_meeting) (He.ga K "is_meeting") cdv A outer s H E) rfl
  exact (oss_cons (os_for po rfl (oi_of (oe_var 0)) (og_name nd) (oss_cons (os_set (i := 2) nd (oe_fn (g_indexes_of T) hr (by decide) tk (oa_cons (oe_var 1) oa_nil))) (oss_one (os_if (ot_not (ot_val (oe_all rfl T.f_all (oe_lc2 rfl nd (oi_of (oe_var 2)) (own := [("one", 3), ("other", 4)]) (blkOk_by rfl) (by decide) (by decide) (by decide) (fun _ _ _ _ _ => (og_name nd)) (fun _ _ _ _ _ => ots_nil) (fun _ _ _ _ _ => (oi_of (oe_var 2))) (fun _ _ _ _ _ => (og_name nd)) (fun _ _ _ _ _ => ots_nil) (fun _ _ _ _ _ => (oe_ne hr.r (oe_band (oe_it (oe_var 0) (oe_var 3)) (oe_it (oe_var 0) (oe_var 4))) oe_int)))))) (oss_one (os_ret oe_bl)) oss_nil)))) (oss_one (os_ret oe_bl)))
theorem sc_is_pinned : FnScope ["near", "ends", "bits", "at"] ["near"] (defScope s_is_pinned) := ⟨rfl, rfl, rfl, by decide +kernel, rfl, by decide +kernel, by decide +kernel⟩
theorem g_is_pinned (T : Tp w K mg base) : GF P w K mg base "is_pinned" (defArgs s_is_pinned) ["near"] 1 m_is_pinned := by
  obtain ⟨fd, F⟩ := T.d_is_pinned
  refine ⟨T.g_is_pinned, F.kp, fd, ?_, FunD.bindsN F (fun _ _ _ _ _ _ us hl => match us, hl with | [_], _ => rfl), Mir.FunD.hasPar F, Mir.FunD.at_ F⟩
  refine fn_ok (k := 0) F sc_is_pinned rfl fun cdv A outer s H E hr => ?_
  have nd := sc_is_pinned.nd
  have tk := takes_of (X := cxOf (L2.CX P w) P w K mg base ["near", "ends", "bits", "at"] "is_pinned" (defScope s_is_pinned) (He.ga K "is_pinned") cdv A outer s H E) rfl rfl rfl rfl
  have po := passes_of (X := cxOf (L2.CX P w) P w K mg base ["near", "ends", "bits", "at"] "is_pinned" (defScope s_is_pinned) (He.ga K "is_pinned") cdv A outer s H E) rfl
  exact (oss_cons (os_set (i := 1) nd (oe_sum rfl T.f_sum (oe_lc rfl nd (oi_enum T.f_enumerate (oe_var 0)) (own := [("at", 3), ("bits", 2)]) (blkOk_by rfl) (by decide) (fun _ _ _ _ _ => (og_tup rfl (ogs_cons (og_name nd) (ogs_cons (og_name nd) ogs_nil)))) (fun _ _ _ _ _ => ots_one (ot_eq hr.r (oe_var 2) (oe_shl oe_int (oe_var 3)))) (fun _ _ _ _ _ => (oe_shl oe_int (oe_var 3)))))) (oss_one (os_ret (oe_all rfl T.f_all (oe_lc rfl nd (oi_of (oe_var 0)) (own := [("bits", 2)]) (blkOk_by rfl) (by decide) (fun _ _ _ _ _ => (og_name nd)) (fun _ _ _ _ _ => ots_nil) (fun _ _ _ _ _ => (oe_ne hr.r (oe_band (oe_var 2) (oe_var 1)) oe_int)))))))
theorem sc_is_parted : FnScope ["near", "other", "at", "bits"] ["near"] (defScope s_is_parted) := ⟨rfl, rfl, rfl, by decide +kernel, rfl, by decide +kernel, by decide +kernel⟩
theorem g_is_parted (T : Tp w K mg base) : GF P w K mg base "is_parted" (defArgs s_is_parted) ["near"] 2 m_is_parted := by
  obtain ⟨fd, F⟩ := T.d_is_parted
  refine ⟨T.g_is_parted, F.kp, fd, ?_, FunD.bindsN F (fun _ _ _ _ _ _ us hl => match us, hl with | [_], _ => rfl), Mir.FunD.hasPar F, Mir.FunD.at_ F⟩
  refine fn_ok (k := 1) F sc_is_parted rfl fun cdv A outer s H E hr => ?_
  have nd := sc_is_parted.nd
  have tk := takes_of (X := cxOf (L2.CX P w) P w K mg base ["near", "other", "at", "bits"] "is_parted" (defScope s_is_parted) (He.ga K "is_parted") cdv A outer s H E) rfl rfl rfl rfl
  have po := passes_of (X := cxOf (L2.CX P w) P w K mg base ["near", "other", "at", "bits"] "is_parted" (defScope s_is_parted) (He.ga K "is_parted") cdv A outer s H E) rfl
  exact (oss_one (os_ret (oe_all rfl T.f_all (oe_lc2 rfl nd (oi_enum T.f_enumerate (oe_var 0)) (own := [("at", 2), ("bits", 3), ("other", 1)]) (blkOk_by rfl) (by decide) (by decide) (by decide) (fun _ _ _ _ _ => (og_tup rfl (ogs_cons (og_name nd) (ogs_cons (og_name nd) ogs_nil)))) (fun _ _ _ _ _ => ots_nil) (fun _ _ _ _ _ => (oi_of (oe_fn (g_indexes_of T) hr (by decide) Mir.takes0 (oa_cons (oe_var 3) oa_nil)))) (fun _ _ _ _ _ => (og_name nd)) (fun _ _ _ _ _ => ots_nil) (fun _ _ _ _ _ => (oe_eq hr.r (oe_band (oe_shr (oe_it (oe_var 0) (oe_var 1)) (oe_var 2)) oe_int) oe_int))))))
theorem sc_is_kind : FnScope ["near", "kind", "at", "bits"] ["near", "kind"] (defScope s_is_kind) := ⟨rfl, rfl, rfl, by decide +kernel, rfl, by decide +kernel, by decide +kernel⟩
theorem g_is_kind (T : Tp w K mg base) : GF P w K mg base "is_kind" (defArgs s_is_kind) ["near", "kind"] 3 m_is_kind := by
  obtain ⟨fd, F⟩ := T.d_is_kind
  refine ⟨T.g_is_kind, F.kp, fd, ?_, FunD.bindsN F (fun _ _ _ _ _ _ us hl => match us, hl with | [_, _], _ => rfl), Mir.FunD.hasPar F, Mir.FunD.at_ F⟩
  refine fn_ok (k := 2) F sc_is_kind rfl fun cdv A outer s H E hr => ?_
  have nd := sc_is_kind.nd
  have tk := takes_of (X := cxOf (L2.CX P w) P w K mg base ["near", "kind", "at", "bits"] "is_kind" (defScope s_is_kind) (He.ga K "is_kind") cdv A outer s H E) rfl rfl rfl rfl
  have po := passes_of (X := cxOf (L2.CX P w) P w K mg base ["near", "kind", "at", "bits"] "is_kind" (defScope s_is_kind) (He.ga K "is_kind") cdv A outer s H E) rfl
  exact (oss_cons (os_if (ot_eq hr.r (oe_var 1) oe_str) (oss_one (os_ret oe_bl)) oss_nil) (oss_cons (os_if (ot_in2 hr.r (oe_var 1) (oe_tup (oa_cons oe_str (oa_cons oe_str oa_nil)))) (oss_one (os_ret (oe_if (ot_eq hr.r (oe_var 1) oe_str) (oe_fn (g_is_meeting T) hr (by decide) tk (oa_cons (oe_var 0) oa_nil)) (oe_fn (g_is_pinned T) hr (by decide) tk (oa_cons (oe_var 0) oa_nil))))) oss_nil) (oss_cons (os_if (ot_eq hr.r (oe_var 1) oe_str) (oss_one (os_ret (oe_and (oe_fn (g_is_meeting T) hr (by decide) tk (oa_cons (oe_var 0) oa_nil)) (oe_one (oe_fn (g_is_pinned T) hr (by decide) tk (oa_cons (oe_var 0) oa_nil)))))) oss_nil) (oss_one (os_ret (oe_if (ot_eq hr.r (oe_var 1) oe_str) (oe_fn (g_is_parted T) hr (by decide) tk (oa_cons (oe_var 0) oa_nil)) (oe_all rfl T.f_all (oe_lc rfl nd (oi_enum T.f_enumerate (oe_var 0)) (own := [("at", 2), ("bits", 3)]) (blkOk_by rfl) (by decide) (fun _ _ _ _ _ => (og_tup rfl (ogs_cons (og_name nd) (ogs_cons (og_name nd) ogs_nil)))) (fun _ _ _ _ _ => ots_nil) (fun _ _ _ _ _ => (oe_eq hr.r (oe_var 3) (oe_shl oe_int (oe_var 2))))))))))))
theorem sc_all_near : FnScope ["number", "kind", "found", "at", "near", "bits"] ["number", "kind"] (defScope s_all_near) := ⟨rfl, rfl, rfl, by decide +kernel, rfl, by decide +kernel, by decide +kernel⟩
theorem g_all_near (T : Tp w K mg base) : GF P w K mg base "all_near" (defArgs s_all_near) ["number", "kind"] 4 m_all_near := by
  obtain ⟨fd, F⟩ := T.d_all_near
  refine ⟨T.g_all_near, F.kp, fd, ?_, FunD.bindsN F (fun _ _ _ _ _ _ us hl => match us, hl with | [_, _], _ => rfl), Mir.FunD.hasPar F, Mir.FunD.at_ F⟩
  refine fn_ok (k := 3) F sc_all_near rfl fun cdv A outer s H E hr => ?_
  have nd := sc_all_near.nd
  have tk := takes_of (X := cxOf (L2.CX P w) P w K mg base ["number", "kind", "found", "at", "near", "bits"] "all_near" (defScope s_all_near) (He.ga K "all_near") cdv A outer s H E) rfl rfl rfl rfl
  have po := passes_of (X := cxOf (L2.CX P w) P w K mg base ["number", "kind", "found", "at", "near", "bits"] "all_near" (defScope s_all_near) (He.ga K "all_near") cdv A outer s H E) rfl
  exact (oss_cons (os_set (i := 2) nd (oe_lst (oa_cons (oe_lst oa_nil) oa_nil))) (oss_cons (os_for po rfl (oi_range1 T.f_range (oe_var 0)) (og_name nd) (oss_one (os_setLc2 (i := 2) rfl nd (oi_of (oe_var 2)) (own := [("near", 4), ("bits", 5)]) (blkOk_by rfl) (by decide) (by decide) (by decide) (fun _ _ _ _ _ => (og_name nd)) (fun _ _ _ _ _ => ots_nil) (fun _ _ _ _ _ => (oi_range1 T.f_range (oe_shl oe_int (oe_var 0)))) (fun _ _ _ _ _ => (og_name nd)) (fun _ _ _ _ _ => ots_one (ot_eq hr.r (oe_band (oe_shr (oe_var 5) (oe_var 3)) oe_int) oe_int)) (fun _ _ _ _ _ => (oe_lst (oa_star (oe_var 4) (oa_cons (oe_var 5) oa_nil))))))) (oss_one (os_ret (oe_lc rfl nd (oi_of (oe_var 2)) (own := [("near", 4)]) (blkOk_by rfl) (by decide) (fun _ _ _ _ _ => (og_name nd)) (fun _ _ _ _ _ => ots_one (ot_w (ow_and (ot_val (oe_fn (g_is_seeing T) hr (by decide) Mir.takes0 (oa_cons (oe_var 4) oa_nil))) (ow_and1 (ot_val (oe_fn (g_is_kind T) hr (by decide) Mir.takes0 (oa_cons (oe_var 4) (oa_cons (oe_var 1) oa_nil)))))))) (fun _ _ _ _ _ => (oe_var 4)))))))
theorem sc_all_lots : FnScope ["number", "many", "found", "at", "sets", "bits"] ["number", "many"] (defScope s_all_lots) := ⟨rfl, rfl, rfl, by decide +kernel, rfl, by decide +kernel, by decide +kernel⟩
theorem g_all_lots (T : Tp w K mg base) : GF P w K mg base "all_lots" (defArgs s_all_lots) ["number", "many"] 1 m_all_lots := by
  obtain ⟨fd, F⟩ := T.d_all_lots
  refine ⟨T.g_all_lots, F.kp, fd, ?_, FunD.bindsN F (fun _ _ _ _ _ _ us hl => match us, hl with | [_, _], _ => rfl), Mir.FunD.hasPar F, Mir.FunD.at_ F⟩
  refine fn_ok (k := 0) F sc_all_lots rfl fun cdv A outer s H E hr => ?_
  have nd := sc_all_lots.nd
  have tk := takes_of (X := cxOf (L2.CX P w) P w K mg base ["number", "many", "found", "at", "sets", "bits"] "all_lots" (defScope s_all_lots) (He.ga K "all_lots") cdv A outer s H E) rfl rfl rfl rfl
  have po := passes_of (X := cxOf (L2.CX P w) P w K mg base ["number", "many", "found", "at", "sets", "bits"] "all_lots" (defScope s_all_lots) (He.ga K "all_lots") cdv A outer s H E) rfl
  exact (oss_cons (os_set (i := 2) nd (oe_lst (oa_cons (oe_lst oa_nil) oa_nil))) (oss_cons (os_for po rfl (oi_range1 T.f_range (oe_var 1)) (og_name nd) (oss_one (os_setLc2 (i := 2) rfl nd (oi_of (oe_var 2)) (own := [("sets", 4), ("bits", 5)]) (blkOk_by rfl) (by decide) (by decide) (by decide) (fun _ _ _ _ _ => (og_name nd)) (fun _ _ _ _ _ => ots_nil) (fun _ _ _ _ _ => (oi_range1 T.f_range (oe_shl oe_int (oe_var 0)))) (fun _ _ _ _ _ => (og_name nd)) (fun _ _ _ _ _ => ots_nil) (fun _ _ _ _ _ => (oe_lst (oa_star (oe_var 4) (oa_cons (oe_var 5) oa_nil))))))) (oss_one (os_ret (oe_var 2)))))
theorem sc_all_bits : FnScope ["near"] ["near"] (defScope s_all_bits) := ⟨rfl, rfl, rfl, by decide +kernel, rfl, by decide +kernel, by decide +kernel⟩
theorem g_all_bits (T : Tp w K mg base) : GF P w K mg base "all_bits" (defArgs s_all_bits) ["near"] 1 m_all_bits := by
  obtain ⟨fd, F⟩ := T.d_all_bits
  refine ⟨T.g_all_bits, F.kp, fd, ?_, FunD.bindsN F (fun _ _ _ _ _ _ us hl => match us, hl with | [_], _ => rfl), Mir.FunD.hasPar F, Mir.FunD.at_ F⟩
  refine fn_ok (k := 0) F sc_all_bits rfl fun cdv A outer s H E hr => ?_
  have nd := sc_all_bits.nd
  have tk := takes_of (X := cxOf (L2.CX P w) P w K mg base ["near"] "all_bits" (defScope s_all_bits) (He.ga K "all_bits") cdv A outer s H E) rfl rfl rfl rfl
  have po := passes_of (X := cxOf (L2.CX P w) P w K mg base ["near"] "all_bits" (defScope s_all_bits) (He.ga K "all_bits") cdv A outer s H E) rfl
  exact (oss_one (os_ret (oe_sub (oe_shl oe_int (oe_len T.f_len (oe_var 0))) oe_int)))
theorem sc_closure_of : FnScope ["near", "bits", "at", "some"] ["near", "bits"] (defScope s_closure_of) := ⟨rfl, rfl, rfl, by decide +kernel, rfl, by decide +kernel, by decide +kernel⟩
theorem g_closure_of (T : Tp w K mg base) : GF P w K mg base "closure_of" (defArgs s_closure_of) ["near", "bits"] 1 m_closure_of := by
  obtain ⟨fd, F⟩ := T.d_closure_of
  refine ⟨T.g_closure_of, F.kp, fd, ?_, FunD.bindsN F (fun _ _ _ _ _ _ us hl => match us, hl with | [_, _], _ => rfl), Mir.FunD.hasPar F, Mir.FunD.at_ F⟩
  refine fn_ok (k := 0) F sc_closure_of rfl fun cdv A outer s H E hr => ?_
  have nd := sc_closure_of.nd
  have tk := takes_of (X := cxOf (L2.CX P w) P w K mg base ["near", "bits", "at", "some"] "closure_of" (defScope s_closure_of) (He.ga K "closure_of") cdv A outer s H E) rfl rfl rfl rfl
  have po := passes_of (X := cxOf (L2.CX P w) P w K mg base ["near", "bits", "at", "some"] "closure_of" (defScope s_closure_of) (He.ga K "closure_of") cdv A outer s H E) rfl
  exact (oss_one (os_ret (oe_sum rfl T.f_sum (oe_lc rfl nd (oi_enum T.f_enumerate (oe_var 0)) (own := [("at", 2), ("some", 3)]) (blkOk_by rfl) (by decide) (fun _ _ _ _ _ => (og_tup rfl (ogs_cons (og_name nd) (ogs_cons (og_name nd) ogs_nil)))) (fun _ _ _ _ _ => ots_one (ot_ne hr.r (oe_band (oe_var 3) (oe_var 1)) oe_int)) (fun _ _ _ _ _ => (oe_shl oe_int (oe_var 2)))))))
theorem sc_inside_of : FnScope ["near", "bits", "at", "some"] ["near", "bits"] (defScope s_inside_of) := ⟨rfl, rfl, rfl, by decide +kernel, rfl, by decide +kernel, by decide +kernel⟩
theorem g_inside_of (T : Tp w K mg base) : GF P w K mg base "inside_of" (defArgs s_inside_of) ["near", "bits"] 1 m_inside_of := by
  obtain ⟨fd, F⟩ := T.d_inside_of
  refine ⟨T.g_inside_of, F.kp, fd, ?_, FunD.bindsN F (fun _ _ _ _ _ _ us hl => match us, hl with | [_, _], _ => rfl), Mir.FunD.hasPar F, Mir.FunD.at_ F⟩
  refine fn_ok (k := 0) F sc_inside_of rfl fun cdv A outer s H E hr => ?_
  have nd := sc_inside_of.nd
  have tk := takes_of (X := cxOf (L2.CX P w) P w K mg base ["near", "bits", "at", "some"] "inside_of" (defScope s_inside_of) (He.ga K "inside_of") cdv A outer s H E) rfl rfl rfl rfl
  have po := passes_of (X := cxOf (L2.CX P w) P w K mg base ["near", "bits", "at", "some"] "inside_of" (defScope s_inside_of) (He.ga K "inside_of") cdv A outer s H E) rfl
  exact (oss_one (os_ret (oe_sum rfl T.f_sum (oe_lc rfl nd (oi_enum T.f_enumerate (oe_var 0)) (own := [("at", 2), ("some", 3)]) (blkOk_by rfl) (by decide) (fun _ _ _ _ _ => (og_tup rfl (ogs_cons (og_name nd) (ogs_cons (og_name nd) ogs_nil)))) (fun _ _ _ _ _ => ots_one (ot_eq hr.r (oe_band (oe_var 3) (oe_inv (oe_var 1))) oe_int)) (fun _ _ _ _ _ => (oe_shl oe_int (oe_var 2)))))))
theorem sc_bits_of_row : FnScope ["sign", "parts", "near", "sets"] ["sign", "parts", "near", "sets"] (defScope s_bits_of_row) := ⟨rfl, rfl, rfl, by decide +kernel, rfl, by decide +kernel, by decide +kernel⟩
theorem g_bits_of_row (T : Tp w K mg base) : GF P w K mg base "bits_of_row" (defArgs s_bits_of_row) ["sign", "parts", "near", "sets"] 2 m_bits_of_row := by
  obtain ⟨fd, F⟩ := T.d_bits_of_row
  refine ⟨T.g_bits_of_row, F.kp, fd, ?_, FunD.bindsN F (fun _ _ _ _ _ _ us hl => match us, hl with | [_, _, _, _], _ => rfl), Mir.FunD.hasPar F, Mir.FunD.at_ F⟩
  refine fn_ok (k := 1) F sc_bits_of_row rfl fun cdv A outer s H E hr => ?_
  have nd := sc_bits_of_row.nd
  have tk := takes_of (X := cxOf (L2.CX P w) P w K mg base ["sign", "parts", "near", "sets"] "bits_of_row" (defScope s_bits_of_row) (He.ga K "bits_of_row") cdv A outer s H E) rfl rfl rfl rfl
  have po := passes_of (X := cxOf (L2.CX P w) P w K mg base ["sign", "parts", "near", "sets"] "bits_of_row" (defScope s_bits_of_row) (He.ga K "bits_of_row") cdv A outer s H E) rfl
  exact (oss_cons (os_if (ot_in2 hr.r (oe_var 0) (oe_gV T.v_SETS)) (oss_one (os_ret (oe_it (oe_var 3) (oe_tidx T.t_SETS (oe_var 0))))) oss_nil) (oss_cons (os_if (ot_in2 hr.r (oe_var 0) (oe_tup (oa_cons oe_str (oa_cons oe_str oa_nil)))) (oss_one (os_ret (oe_if (ot_eq hr.r (oe_var 0) oe_str) (oe_fn (g_all_bits T) hr (by decide) tk (oa_cons (oe_var 2) oa_nil)) oe_int))) oss_nil) (oss_cons (os_if (ot_eq hr.r (oe_var 0) oe_str) (oss_one (os_ret (oe_fn (g_closure_of T) hr (by decide) tk (oa_cons (oe_var 2) (oa_cons (oe_it (oe_var 1) oe_int) oa_nil))))) oss_nil) (oss_cons (os_if (ot_eq hr.r (oe_var 0) oe_str) (oss_one (os_ret (oe_fn (g_inside_of T) hr (by decide) tk (oa_cons (oe_var 2) (oa_cons (oe_it (oe_var 1) oe_int) oa_nil))))) oss_nil) (oss_cons (os_if (ot_eq hr.r (oe_var 0) oe_str) (oss_one (os_ret (oe_band (oe_fn (g_all_bits T) hr (by decide) tk (oa_cons (oe_var 2) oa_nil)) (oe_inv (oe_it (oe_var 1) oe_int))))) oss_nil) (oss_one (os_ret (oe_if (ot_eq hr.r (oe_var 0) oe_str) (oe_band (oe_it (oe_var 1) oe_int) (oe_it (oe_var 1) oe_int)) (oe_bor (oe_it (oe_var 1) oe_int) (oe_it (oe_var 1) oe_int))))))))))
theorem sc_bits_at : FnScope ["rows", "near", "sets", "found", "row", "parts", "part"] ["rows", "near", "sets"] (defScope s_bits_at) := ⟨rfl, rfl, rfl, by decide +kernel, rfl, by decide +kernel, by decide +kernel⟩
theorem g_bits_at (T : Tp w K mg base) : GF P w K mg base "bits_at" (defArgs s_bits_at) ["rows", "near", "sets"] 3 m_bits_at := by
  obtain ⟨fd, F⟩ := T.d_bits_at
  refine ⟨T.g_bits_at, F.kp, fd, ?_, FunD.bindsN F (fun _ _ _ _ _ _ us hl => match us, hl with | [_, _, _], _ => rfl), Mir.FunD.hasPar F, Mir.FunD.at_ F⟩
  refine fn_ok (k := 2) F sc_bits_at rfl fun cdv A outer s H E hr => ?_
  have nd := sc_bits_at.nd
  have tk := takes_of (X := cxOf (L2.CX P w) P w K mg base ["rows", "near", "sets", "found", "row", "parts", "part"] "bits_at" (defScope s_bits_at) (He.ga K "bits_at") cdv A outer s H E) rfl rfl rfl rfl
  have po := passes_of (X := cxOf (L2.CX P w) P w K mg base ["rows", "near", "sets", "found", "row", "parts", "part"] "bits_at" (defScope s_bits_at) (He.ga K "bits_at") cdv A outer s H E) rfl
  exact (oss_cons (os_set (i := 3) nd (oe_lstC oa_nil)) (oss_cons (os_for po rfl (oi_of (oe_var 0)) (og_name nd) (oss_cons (os_setLc (i := 5) rfl nd (oi_of (oe_slice (oe_var 4) (oo_some oe_int) oo_none)) (own := [("part", 6)]) (blkOk_by rfl) (by decide) (fun _ _ _ _ _ => (og_name nd)) (fun _ _ _ _ _ => ots_nil) (fun _ _ _ _ _ => (oe_it (oe_var 3) (oe_var 6)))) (oss_one (os_expr (oe_append (oe_var 3) (oe_fn (g_bits_of_row T) hr (by decide) tk (oa_cons (oe_it (oe_var 4) oe_int) (oa_cons (oe_var 5) (oa_cons (oe_var 1) (oa_cons (oe_var 2) oa_nil)))))))))) (oss_one (os_ret (oe_var 3)))))
theorem sc_is_parted_by : FnScope ["number", "kind", "texts", "rows", "many", "near", "first", "second", "sets", "text", "told", "letter"] ["number", "kind", "texts"] (defScope s_is_parted_by) := ⟨rfl, rfl, rfl, by decide +kernel, rfl, by decide +kernel, by decide +kernel⟩
theorem g_is_parted_by (T : Tp w K mg base) : GF P w K mg base "is_parted_by" (defArgs s_is_parted_by) ["number", "kind", "texts"] 5 m_is_parted_by := by
  obtain ⟨fd, F⟩ := T.d_is_parted_by
  refine ⟨T.g_is_parted_by, F.kp, fd, ?_, FunD.bindsN F (fun _ _ _ _ _ _ us hl => match us, hl with | [_, _, _], _ => rfl), Mir.FunD.hasPar F, Mir.FunD.at_ F⟩
  refine fn_ok (k := 4) F sc_is_parted_by rfl fun cdv A outer s H E hr => ?_
  have nd := sc_is_parted_by.nd
  have tk := takes_of (X := cxOf (L2.CX P w) P w K mg base ["number", "kind", "texts", "rows", "many", "near", "first", "second", "sets", "text", "told", "letter"] "is_parted_by" (defScope s_is_parted_by) (He.ga K "is_parted_by") cdv A outer s H E) rfl rfl rfl rfl
  have po := passes_of (X := cxOf (L2.CX P w) P w K mg base ["number", "kind", "texts", "rows", "many", "near", "first", "second", "sets", "text", "told", "letter"] "is_parted_by" (defScope s_is_parted_by) (He.ga K "is_parted_by") cdv A outer s H E) rfl
  exact (oss_cons (os_set (i := 3) nd (oe_makeR 2 (g_Rows___init__ T) hr (by decide) tk)) (oss_cons (os_asg (oe_lc rfl nd (oi_of (oe_var 2)) (own := [("text", 9)]) (blkOk_by rfl) (by decide) (fun _ _ _ _ _ => (og_name nd)) (fun _ _ _ _ _ => ots_nil) (fun _ _ _ _ _ => (oe_fn (g_read_into T) hr (by decide) Mir.takes0 (oa_cons (oe_var 3) (oa_cons (oe_var 9) oa_nil))))) (og_lst rfl (ogs_cons (og_name nd) (ogs_cons (og_name nd) ogs_nil)))) (oss_cons (os_set (i := 4) nd (oe_max rfl T.f_max (oe_lst (oa_cons oe_int (oa_star (oe_lc rfl nd (oi_of (oe_gV T.v_SETS)) (own := [("letter", 11)]) (blkOk_by rfl) (by decide) (fun _ _ _ _ _ => (og_name nd)) (fun _ _ _ _ _ => ots_one (ot_in2 hr.r (oe_var 11) (oe_join oe_str (oe_var 2)))) (fun _ _ _ _ _ => (oe_add (oe_tidx T.t_SETS (oe_var 11)) oe_int))) oa_nil))))) (oss_cons (os_for po rfl (oi_of (oe_fn (g_all_near T) hr (by decide) tk (oa_cons (oe_var 0) (oa_cons (oe_var 1) oa_nil)))) (og_name nd) (oss_one (os_for po rfl (oi_of (oe_fn (g_all_lots T) hr (by decide) tk (oa_cons (oe_var 0) (oa_cons (oe_var 4) oa_nil)))) (og_name nd) (oss_cons (os_set (i := 10) nd (oe_fn (g_bits_at T) hr (by decide) tk (oa_cons (oe_fld T.c_Rows T.n_Rows_listed (oe_var 3)) (oa_cons (oe_var 5) (oa_cons (oe_var 8) oa_nil))))) (oss_one (os_if (ot_ne hr.r (oe_it (oe_var 10) (oe_var 6)) (oe_it (oe_var 10) (oe_var 7))) (oss_one (os_ret oe_bl)) oss_nil)))))) (oss_one (os_ret oe_bl))))))
theorem sc_least_points : FnScope ["one", "other", "kind", "number", "many"] ["one", "other", "kind", "number"] (defScope s_least_points) := ⟨rfl, rfl, rfl, by decide +kernel, rfl, by decide +kernel, by decide +kernel⟩
theorem g_least_points (T : Tp w K mg base) : GF P w K mg base "least_points" (defArgs s_least_points) ["one", "other", "kind", "number"] 6 m_least_points := by
  obtain ⟨fd, F⟩ := T.d_least_points
  refine ⟨T.g_least_points, F.kp, fd, ?_, FunD.bindsN F (fun _ _ _ _ _ _ us hl => match us, hl with | [_, _, _, _], _ => rfl), Mir.FunD.hasPar F, Mir.FunD.at_ F⟩
  refine fn_ok (k := 5) F sc_least_points rfl fun cdv A outer s H E hr => ?_
  have nd := sc_least_points.nd
  have tk := takes_of (X := cxOf (L2.CX P w) P w K mg base ["one", "other", "kind", "number", "many"] "least_points" (defScope s_least_points) (He.ga K "least_points") cdv A outer s H E) rfl rfl rfl rfl
  have po := passes_of (X := cxOf (L2.CX P w) P w K mg base ["one", "other", "kind", "number", "many"] "least_points" (defScope s_least_points) (He.ga K "least_points") cdv A outer s H E) rfl
  exact (oss_cons (os_expr (oe_fn (g_check_term T) hr (by decide) tk (oa_cons (oe_var 0) oa_nil))) (oss_cons (os_expr (oe_fn (g_check_term T) hr (by decide) tk (oa_cons (oe_var 1) oa_nil))) (oss_cons (os_expr (oe_fn (g_check_kind T) hr (by decide) tk (oa_cons (oe_var 2) oa_nil))) (oss_cons (os_expr (oe_fn (g_check_listed T) hr (by decide) tk (oa_cons (oe_var 3) oa_nil))) (oss_cons (os_for po rfl (oi_range2 T.f_range oe_int (oe_add (oe_var 3) oe_int)) (og_name nd) (oss_one (os_if (ot_val (oe_fn (g_is_parted_by T) hr (by decide) tk (oa_cons (oe_var 4) (oa_cons (oe_var 2) (oa_cons (oe_tup (oa_cons (oe_fld T.c_Term T.n_Term_told (oe_var 0)) (oa_cons (oe_fld T.c_Term T.n_Term_told (oe_var 1)) oa_nil))) oa_nil))))) (oss_one (os_ret (oe_var 4))) oss_nil))) (oss_one (os_ret oe_non)))))))
theorem sc_check_both : FnScope ["number", "kind"] ["number", "kind"] (defScope s_check_both) := ⟨rfl, rfl, rfl, by decide +kernel, rfl, by decide +kernel, by decide +kernel⟩
theorem g_check_both (T : Tp w K mg base) : GF P w K mg base "check_both" (defArgs s_check_both) ["number", "kind"] 4 m_check_both := by
  obtain ⟨fd, F⟩ := T.d_check_both
  refine ⟨T.g_check_both, F.kp, fd, ?_, FunD.bindsN F (fun _ _ _ _ _ _ us hl => match us, hl with | [_, _], _ => rfl), Mir.FunD.hasPar F, Mir.FunD.at_ F⟩
  refine fn_ok (k := 3) F sc_check_both rfl fun cdv A outer s H E hr => ?_
  have nd := sc_check_both.nd
  have tk := takes_of (X := cxOf (L2.CX P w) P w K mg base ["number", "kind"] "check_both" (defScope s_check_both) (He.ga K "check_both") cdv A outer s H E) rfl rfl rfl rfl
  have po := passes_of (X := cxOf (L2.CX P w) P w K mg base ["number", "kind"] "check_both" (defScope s_check_both) (He.ga K "check_both") cdv A outer s H E) rfl
  exact (oss_cons (os_expr (oe_fn (g_check_listed T) hr (by decide) tk (oa_cons (oe_var 0) oa_nil))) (oss_one (os_expr (oe_fn (g_check_kind T) hr (by decide) tk (oa_cons (oe_var 1) oa_nil)))))
theorem sc_text_of : FnScope ["order", "near", "rows", "name", "bits", "inner", "at"] ["order", "near"] (defScope s_text_of) := ⟨rfl, rfl, rfl, by decide +kernel, rfl, by decide +kernel, by decide +kernel⟩
theorem g_text_of (T : Tp w K mg base) : GF P w K mg base "text_of" (defArgs s_text_of) ["order", "near"] 2 m_text_of := by
  obtain ⟨fd, F⟩ := T.d_text_of
  refine ⟨T.g_text_of, F.kp, fd, ?_, FunD.bindsN F (fun _ _ _ _ _ _ us hl => match us, hl with | [_, _], _ => rfl), Mir.FunD.hasPar F, Mir.FunD.at_ F⟩
  refine fn_ok (k := 1) F sc_text_of rfl fun cdv A outer s H E hr => ?_
  have nd := sc_text_of.nd
  have tk := takes_of (X := cxOf (L2.CX P w) P w K mg base ["order", "near", "rows", "name", "bits", "inner", "at"] "text_of" (defScope s_text_of) (He.ga K "text_of") cdv A outer s H E) rfl rfl rfl rfl
  have po := passes_of (X := cxOf (L2.CX P w) P w K mg base ["order", "near", "rows", "name", "bits", "inner", "at"] "text_of" (defScope s_text_of) (He.ga K "text_of") cdv A outer s H E) rfl
  exact (oss_cons (os_set (i := 2) nd (oe_lstC oa_nil)) (oss_cons (os_for po rfl (oi_zip T.f_zip (oe_var 0) (oe_var 1)) (og_tup rfl (ogs_cons (og_name nd) (ogs_cons (og_name nd) ogs_nil))) (oss_cons (os_set (i := 5) nd (oe_join oe_str (oe_lc rfl nd (oi_of (oe_fn (g_indexes_of T) hr (by decide) tk (oa_cons (oe_var 4) oa_nil))) (own := [("at", 6)]) (blkOk_by rfl) (by decide) (fun _ _ _ _ _ => (og_name nd)) (fun _ _ _ _ _ => ots_nil) (fun _ _ _ _ _ => (oe_it (oe_var 0) (oe_var 6)))))) (oss_one (os_expr (oe_append (oe_var 2) (oe_fstr (oj_fmt (oe_var 3) (oj_txt (oj_fmt (oe_var 5) oj_nil))))))))) (oss_one (os_ret (oe_join oe_str (oe_var 2))))))
theorem sc_listed_texts : FnScope ["number", "kind", "near"] ["number", "kind"] (defScope s_listed_texts) := ⟨rfl, rfl, rfl, by decide +kernel, rfl, by decide +kernel, by decide +kernel⟩
theorem g_listed_texts (T : Tp w K mg base) : GF P w K mg base "listed_texts" (defArgs s_listed_texts) ["number", "kind"] 5 m_listed_texts := by
  obtain ⟨fd, F⟩ := T.d_listed_texts
  refine ⟨T.g_listed_texts, F.kp, fd, ?_, FunD.bindsN F (fun _ _ _ _ _ _ us hl => match us, hl with | [_, _], _ => rfl), Mir.FunD.hasPar F, Mir.FunD.at_ F⟩
  refine fn_ok (k := 4) F sc_listed_texts rfl fun cdv A outer s H E hr => ?_
  have nd := sc_listed_texts.nd
  have tk := takes_of (X := cxOf (L2.CX P w) P w K mg base ["number", "kind", "near"] "listed_texts" (defScope s_listed_texts) (He.ga K "listed_texts") cdv A outer s H E) rfl rfl rfl rfl
  have po := passes_of (X := cxOf (L2.CX P w) P w K mg base ["number", "kind", "near"] "listed_texts" (defScope s_listed_texts) (He.ga K "listed_texts") cdv A outer s H E) rfl
  exact (oss_one (os_ret (oe_sorted T.f_sorted (oe_lc rfl nd (oi_of (oe_fn (g_all_near T) hr (by decide) tk (oa_cons (oe_var 0) (oa_cons (oe_var 1) oa_nil)))) (own := [("near", 2)]) (blkOk_by rfl) (by decide) (fun _ _ _ _ _ => (og_name nd)) (fun _ _ _ _ _ => ots_nil) (fun _ _ _ _ _ => (oe_fn (g_text_of T) hr (by decide) Mir.takes0 (oa_cons (oe_slice (oe_gV T.v_NAMES) oo_none (oo_some (oe_var 0))) (oa_cons (oe_var 2) oa_nil))))))))
theorem sc_is_name : FnScope ["value", "value_here", "sign"] ["value"] (defScope s_is_name) := ⟨rfl, rfl, rfl, by decide +kernel, rfl, by decide +kernel, by decide +kernel⟩
theorem g_is_name (T : Tp w K mg base) : GF P w K mg base "is_name" (defArgs s_is_name) ["value"] 1 m_is_name := by
  obtain ⟨fd, F⟩ := T.d_is_name
  refine ⟨T.g_is_name, F.kp, fd, ?_, FunD.bindsN F (fun _ _ _ _ _ _ us hl => match us, hl with | [_], _ => rfl), Mir.FunD.hasPar F, Mir.FunD.at_ F⟩
  refine fn_ok (k := 0) F sc_is_name rfl fun cdv A outer s H E hr => ?_
  have nd := sc_is_name.nd
  have tk := takes_of (X := cxOf (L2.CX P w) P w K mg base ["value", "value_here", "sign"] "is_name" (defScope s_is_name) (He.ga K "is_name") cdv A outer s H E) rfl rfl rfl rfl
  have po := passes_of (X := cxOf (L2.CX P w) P w K mg base ["value", "value_here", "sign"] "is_name" (defScope s_is_name) (He.ga K "is_name") cdv A outer s H E) rfl
  exact (oss_cons (os_set (i := 1) nd (oe_var 0)) (oss_cons (os_if (ot_w (ow_or (ot_not (ot_val (oe_isi T.isi T.f_isinstance (oe_var 0) (oe_bT T.f_str)))) (ow_or (ot_not (ot_lele oe_int (oe_len T.f_len (oe_var 0)) (oe_gV T.v_LONGEST))) (ow_or1 (ot_notIn2 hr.r (oe_it (oe_var 0) oe_int) (oe_gV T.v_LETTERS)))))) (oss_one (os_ret oe_bl)) oss_nil) (oss_one (os_ret (oe_all rfl T.f_all (oe_lc rfl nd (oi_of (oe_var 1)) (own := [("sign", 2)]) (blkOk_by rfl) (by decide) (fun _ _ _ _ _ => (og_name nd)) (fun _ _ _ _ _ => ots_nil) (fun _ _ _ _ _ => (oe_or (oe_in2 hr.r (oe_var 2) (oe_gV T.v_LETTERS)) (oe_one (oe_in2 hr.r (oe_var 2) (oe_gV T.v_DIGITS)))))))))))
theorem sc_read_row : FnScope ["row", "found", "name", "mark", "tail"] ["row"] (defScope s_read_row) := ⟨rfl, rfl, rfl, by decide +kernel, rfl, by decide +kernel, by decide +kernel⟩
theorem g_read_row (T : Tp w K mg base) : GF P w K mg base "read_row" (defArgs s_read_row) ["row"] 2 m_read_row := by
  obtain ⟨fd, F⟩ := T.d_read_row
  refine ⟨T.g_read_row, F.kp, fd, ?_, FunD.bindsN F (fun _ _ _ _ _ _ us hl => match us, hl with | [_], _ => rfl), Mir.FunD.hasPar F, Mir.FunD.at_ F⟩
  refine fn_ok (k := 1) F sc_read_row rfl fun cdv A outer s H E hr => ?_
  have nd := sc_read_row.nd
  have tk := takes_of (X := cxOf (L2.CX P w) P w K mg base ["row", "found", "name", "mark", "tail"] "read_row" (defScope s_read_row) (He.ga K "read_row") cdv A outer s H E) rfl rfl rfl rfl
  have po := passes_of (X := cxOf (L2.CX P w) P w K mg base ["row", "found", "name", "mark", "tail"] "read_row" (defScope s_read_row) (He.ga K "read_row") cdv A outer s H E) rfl
  exact (oss_cons (os_asg (oe_partition (oe_var 0) oe_str) (og_tup rfl (ogs_cons (og_name nd) (ogs_cons (og_name nd) (ogs_cons (og_name nd) ogs_nil))))) (oss_cons (os_set (i := 1) nd (oe_split (oe_var 4) oe_str)) (oss_one (os_ret (oe_if (ot_w (ow_and (ot_ne hr.r (oe_var 3) oe_str) (ow_and1 (ot_val (oe_fn (g_is_name T) hr (by decide) tk (oa_cons (oe_var 2) oa_nil)))))) (oe_tup (oa_cons (oe_var 2) (oa_cons (oe_var 1) oa_nil))) oe_non)))))
theorem sc_is_ordered : FnScope ["order", "names", "places", "name", "at"] ["order", "names"] (defScope s_is_ordered) := ⟨rfl, rfl, rfl, by decide +kernel, rfl, by decide +kernel, by decide +kernel⟩
theorem g_is_ordered (T : Tp w K mg base) : GF P w K mg base "is_ordered" (defArgs s_is_ordered) ["order", "names"] 1 m_is_ordered := by
  obtain ⟨fd, F⟩ := T.d_is_ordered
  refine ⟨T.g_is_ordered, F.kp, fd, ?_, FunD.bindsN F (fun _ _ _ _ _ _ us hl => match us, hl with | [_, _], _ => rfl), Mir.FunD.hasPar F, Mir.FunD.at_ F⟩
  refine fn_ok (k := 0) F sc_is_ordered rfl fun cdv A outer s H E hr => ?_
  have nd := sc_is_ordered.nd
  have tk := takes_of (X := cxOf (L2.CX P w) P w K mg base ["order", "names", "places", "name", "at"] "is_ordered" (defScope s_is_ordered) (He.ga K "is_ordered") cdv A outer s H E) rfl rfl rfl rfl
  have po := passes_of (X := cxOf (L2.CX P w) P w K mg base ["order", "names", "places", "name", "at"] "is_ordered" (defScope s_is_ordered) (He.ga K "is_ordered") cdv A outer s H E) rfl
  exact (oss_cons (os_set (i := 2) nd (oe_lc rfl nd (oi_of (oe_var 1)) (own := [("name", 3)]) (blkOk_by rfl) (by decide) (fun _ _ _ _ _ => (og_name nd)) (fun _ _ _ _ _ => ots_nil) (fun _ _ _ _ _ => (oe_if (ot_in2 hr.r (oe_var 3) (oe_var 0)) (oe_index (oe_var 0) (oe_var 3)) (oe_neg oe_int))))) (oss_one (os_ret (oe_and (oe_all rfl T.f_all (oe_lc rfl nd (oi_of (oe_var 2)) (own := [("at", 4)]) (blkOk_by rfl) (by decide) (fun _ _ _ _ _ => (og_name nd)) (fun _ _ _ _ _ => ots_nil) (fun _ _ _ _ _ => (oe_ge (oe_var 4) oe_int)))) (oe_one (oe_all rfl T.f_all (oe_lc rfl nd (oi_range2 T.f_range oe_int (oe_len T.f_len (oe_var 2))) (own := [("at", 4)]) (blkOk_by rfl) (by decide) (fun _ _ _ _ _ => (og_name nd)) (fun _ _ _ _ _ => ots_nil) (fun _ _ _ _ _ => (oe_lt (oe_it (oe_var 2) (oe_sub (oe_var 4) oe_int)) (oe_it (oe_var 2) (oe_var 4)))))))))))
theorem sc_bits_of : FnScope ["order", "names", "name"] ["order", "names"] (defScope s_bits_of) := ⟨rfl, rfl, rfl, by decide +kernel, rfl, by decide +kernel, by decide +kernel⟩
theorem g_bits_of (T : Tp w K mg base) : GF P w K mg base "bits_of" (defArgs s_bits_of) ["order", "names"] 1 m_bits_of := by
  obtain ⟨fd, F⟩ := T.d_bits_of
  refine ⟨T.g_bits_of, F.kp, fd, ?_, FunD.bindsN F (fun _ _ _ _ _ _ us hl => match us, hl with | [_, _], _ => rfl), Mir.FunD.hasPar F, Mir.FunD.at_ F⟩
  refine fn_ok (k := 0) F sc_bits_of rfl fun cdv A outer s H E hr => ?_
  have nd := sc_bits_of.nd
  have tk := takes_of (X := cxOf (L2.CX P w) P w K mg base ["order", "names", "name"] "bits_of" (defScope s_bits_of) (He.ga K "bits_of") cdv A outer s H E) rfl rfl rfl rfl
  have po := passes_of (X := cxOf (L2.CX P w) P w K mg base ["order", "names", "name"] "bits_of" (defScope s_bits_of) (He.ga K "bits_of") cdv A outer s H E) rfl
  exact (oss_one (os_ret (oe_sum rfl T.f_sum (oe_lc rfl nd (oi_of (oe_var 1)) (own := [("name", 2)]) (blkOk_by rfl) (by decide) (fun _ _ _ _ _ => (og_name nd)) (fun _ _ _ _ _ => ots_nil) (fun _ _ _ _ _ => (oe_shl oe_int (oe_index (oe_var 0) (oe_var 2))))))))
theorem sc_read_space : FnScope ["text", "rows", "order", "near", "row", "name", "names"] ["text"] (defScope s_read_space) := ⟨rfl, rfl, rfl, by decide +kernel, rfl, by decide +kernel, by decide +kernel⟩
theorem g_read_space (T : Tp w K mg base) : GF P w K mg base "read_space" (defArgs s_read_space) ["text"] 3 m_read_space := by
  obtain ⟨fd, F⟩ := T.d_read_space
  refine ⟨T.g_read_space, F.kp, fd, ?_, FunD.bindsN F (fun _ _ _ _ _ _ us hl => match us, hl with | [_], _ => rfl), Mir.FunD.hasPar F, Mir.FunD.at_ F⟩
  refine fn_ok (k := 2) F sc_read_space rfl fun cdv A outer s H E hr => ?_
  have nd := sc_read_space.nd
  have tk := takes_of (X := cxOf (L2.CX P w) P w K mg base ["text", "rows", "order", "near", "row", "name", "names"] "read_space" (defScope s_read_space) (He.ga K "read_space") cdv A outer s H E) rfl rfl rfl rfl
  have po := passes_of (X := cxOf (L2.CX P w) P w K mg base ["text", "rows", "order", "near", "row", "name", "names"] "read_space" (defScope s_read_space) (He.ga K "read_space") cdv A outer s H E) rfl
  exact (oss_cons (os_setLc (i := 1) rfl nd (oi_of (oe_split (oe_var 0) oe_str)) (own := [("row", 4)]) (blkOk_by rfl) (by decide) (fun _ _ _ _ _ => (og_name nd)) (fun _ _ _ _ _ => ots_nil) (fun _ _ _ _ _ => (oe_fn (g_read_row T) hr (by decide) Mir.takes0 (oa_cons (oe_var 4) oa_nil)))) (oss_cons (os_if (ot_w (ow_or (ot_in2 hr.r oe_non (oe_var 1)) (ow_or1 (ot_gt (oe_len T.f_len (oe_var 1)) (oe_gV T.v_MOST_POINTS))))) (oss_one (os_ret oe_non)) oss_nil) (oss_cons (os_set (i := 2) nd (oe_lc rfl nd (oi_of (oe_var 1)) (own := [("name", 5), ("near", 3)]) (blkOk_by rfl) (by decide) (fun _ _ _ _ _ => (og_tup rfl (ogs_cons (og_name nd) (ogs_cons (og_name nd) ogs_nil)))) (fun _ _ _ _ _ => ots_nil) (fun _ _ _ _ _ => (oe_var 5)))) (oss_cons (os_if (ot_w (ow_or (ot_ne hr.r (oe_len T.f_len (oe_dictP rfl T.f_dict (oe_var 1))) (oe_len T.f_len (oe_var 1))) (ow_or1 (ot_not (ot_val (oe_all rfl T.f_all (oe_lc rfl nd (oi_of (oe_var 1)) (own := [("name", 5), ("near", 3)]) (blkOk_by rfl) (by decide) (fun _ _ _ _ _ => (og_tup rfl (ogs_cons (og_name nd) (ogs_cons (og_name nd) ogs_nil)))) (fun _ _ _ _ _ => ots_nil) (fun _ _ _ _ _ => (oe_fn (g_is_ordered T) hr (by decide) Mir.takes0 (oa_cons (oe_var 2) (oa_cons (oe_var 3) oa_nil))))))))))) (oss_one (os_ret oe_non)) oss_nil) (oss_cons (os_setLc (i := 3) rfl nd (oi_of (oe_var 1)) (own := [("name", 5), ("names", 6)]) (blkOk_by rfl) (by decide) (fun _ _ _ _ _ => (og_tup rfl (ogs_cons (og_name nd) (ogs_cons (og_name nd) ogs_nil)))) (fun _ _ _ _ _ => ots_nil) (fun _ _ _ _ _ => (oe_fn (g_bits_of T) hr (by decide) Mir.takes0 (oa_cons (oe_var 2) (oa_cons (oe_var 6) oa_nil))))) (oss_one (os_ret (oe_if (ot_val (oe_fn (g_is_seeing T) hr (by decide) tk (oa_cons (oe_var 3) oa_nil))) (oe_tup (oa_cons (oe_var 2) (oa_cons (oe_var 3) oa_nil))) oe_non))))))))
theorem sc_Space___init__ : FnScope ["self", "text", "found"] ["self", "text"] (defScope s_Space___init__) := ⟨rfl, rfl, rfl, by decide +kernel, rfl, by decide +kernel, by decide +kernel⟩
theorem g_Space___init__ (T : Tp w K mg base) : GC P w K mg base "Space" (defArgs s_Space___init__) ["self", "text"] 4 m_Space___init__ := by
  obtain ⟨fd, F⟩ := T.d_Space___init__
  refine ⟨T.g_Space, T.mk_Space, fd, ?_, FunD.bindsN F (fun _ _ _ _ _ _ us hl => match us, hl with | [_, _], _ => rfl), Mir.FunD.hasPar F⟩
  refine fn_ok (k := 3) F sc_Space___init__ rfl fun cdv A outer s H E hr => ?_
  have nd := sc_Space___init__.nd
  have tk := takes_of (X := cxOf (L2.CX P w) P w K mg base ["self", "text", "found"] "Space.__init__" (defScope s_Space___init__) (He.ma K (He.ga K "Space") "__init__") cdv A outer s H E) rfl rfl rfl rfl
  have po := passes_of (X := cxOf (L2.CX P w) P w K mg base ["self", "text", "found"] "Space.__init__" (defScope s_Space___init__) (He.ma K (He.ga K "Space") "__init__") cdv A outer s H E) rfl
  exact (oss_cons (os_set (i := 2) nd (oe_if (ot_val (oe_isi T.isi T.f_isinstance (oe_var 1) (oe_bT T.f_str))) (oe_fn (g_read_space T) hr (by decide) tk (oa_cons (oe_var 1) oa_nil)) oe_non)) (oss_cons (os_if (ot_isN (oe_var 2)) (oss_one (os_raise (x_InvalidText T) hr (by decide) rfl tk (oa_cons (oe_var 1) oa_nil))) oss_nil) (oss_one (os_parG rfl (oa_cons (oe_var 1) (oa_cons (oe_it (oe_var 2) oe_int) (oa_cons (oe_it (oe_var 2) oe_int) oa_nil))) (ogs_cons (og_fld T.c_Space T.n_Space_told (oe_var 0)) (ogs_cons (og_fld T.c_Space T.n_Space_order (oe_var 0)) (ogs_cons (og_fld T.c_Space T.n_Space_seen (oe_var 0)) ogs_nil)))))))
theorem sc_all_spaces : FnScope ["number", "kind", "text"] ["number", "kind"] (defScope s_all_spaces) := ⟨rfl, rfl, rfl, by decide +kernel, rfl, by decide +kernel, by decide +kernel⟩
theorem g_all_spaces (T : Tp w K mg base) : GF P w K mg base "all_spaces" (defArgs s_all_spaces) ["number", "kind"] 6 m_all_spaces := by
  obtain ⟨fd, F⟩ := T.d_all_spaces
  refine ⟨T.g_all_spaces, F.kp, fd, ?_, FunD.bindsN F (fun _ _ _ _ _ _ us hl => match us, hl with | [_, _], _ => rfl), Mir.FunD.hasPar F, Mir.FunD.at_ F⟩
  refine fn_ok (k := 5) F sc_all_spaces rfl fun cdv A outer s H E hr => ?_
  have nd := sc_all_spaces.nd
  have tk := takes_of (X := cxOf (L2.CX P w) P w K mg base ["number", "kind", "text"] "all_spaces" (defScope s_all_spaces) (He.ga K "all_spaces") cdv A outer s H E) rfl rfl rfl rfl
  have po := passes_of (X := cxOf (L2.CX P w) P w K mg base ["number", "kind", "text"] "all_spaces" (defScope s_all_spaces) (He.ga K "all_spaces") cdv A outer s H E) rfl
  exact (oss_cons (os_expr (oe_fn (g_check_both T) hr (by decide) tk (oa_cons (oe_var 0) (oa_cons (oe_var 1) oa_nil)))) (oss_one (os_ret (oe_tupleC T.f_tuple (oe_lc rfl nd (oi_of (oe_fn (g_listed_texts T) hr (by decide) tk (oa_cons (oe_var 0) (oa_cons (oe_var 1) oa_nil)))) (own := [("text", 2)]) (blkOk_by rfl) (by decide) (fun _ _ _ _ _ => (og_name nd)) (fun _ _ _ _ _ => ots_nil) (fun _ _ _ _ _ => (oe_make false (g_Space___init__ T) hr (by decide) Mir.takes0 (oa_cons (oe_var 2) oa_nil))))))))
theorem sc_count_spaces : FnScope ["number", "kind"] ["number", "kind"] (defScope s_count_spaces) := ⟨rfl, rfl, rfl, by decide +kernel, rfl, by decide +kernel, by decide +kernel⟩
theorem g_count_spaces (T : Tp w K mg base) : GF P w K mg base "count_spaces" (defArgs s_count_spaces) ["number", "kind"] 5 m_count_spaces := by
  obtain ⟨fd, F⟩ := T.d_count_spaces
  refine ⟨T.g_count_spaces, F.kp, fd, ?_, FunD.bindsN F (fun _ _ _ _ _ _ us hl => match us, hl with | [_, _], _ => rfl), Mir.FunD.hasPar F, Mir.FunD.at_ F⟩
  refine fn_ok (k := 4) F sc_count_spaces rfl fun cdv A outer s H E hr => ?_
  have nd := sc_count_spaces.nd
  have tk := takes_of (X := cxOf (L2.CX P w) P w K mg base ["number", "kind"] "count_spaces" (defScope s_count_spaces) (He.ga K "count_spaces") cdv A outer s H E) rfl rfl rfl rfl
  have po := passes_of (X := cxOf (L2.CX P w) P w K mg base ["number", "kind"] "count_spaces" (defScope s_count_spaces) (He.ga K "count_spaces") cdv A outer s H E) rfl
  exact (oss_cons (os_expr (oe_fn (g_check_both T) hr (by decide) tk (oa_cons (oe_var 0) (oa_cons (oe_var 1) oa_nil)))) (oss_one (os_ret (oe_len T.f_len (oe_fn (g_all_near T) hr (by decide) tk (oa_cons (oe_var 0) (oa_cons (oe_var 1) oa_nil)))))))
theorem sc_orders_of : FnScope ["number", "found", "at", "some", "more"] ["number"] (defScope s_orders_of) := ⟨rfl, rfl, rfl, by decide +kernel, rfl, by decide +kernel, by decide +kernel⟩
theorem g_orders_of (T : Tp w K mg base) : GF P w K mg base "orders_of" (defArgs s_orders_of) ["number"] 1 m_orders_of := by
  obtain ⟨fd, F⟩ := T.d_orders_of
  refine ⟨T.g_orders_of, F.kp, fd, ?_, FunD.bindsN F (fun _ _ _ _ _ _ us hl => match us, hl with | [_], _ => rfl), Mir.FunD.hasPar F, Mir.FunD.at_ F⟩
  refine fn_ok (k := 0) F sc_orders_of rfl fun cdv A outer s H E hr => ?_
  have nd := sc_orders_of.nd
  have tk := takes_of (X := cxOf (L2.CX P w) P w K mg base ["number", "found", "at", "some", "more"] "orders_of" (defScope s_orders_of) (He.ga K "orders_of") cdv A outer s H E) rfl rfl rfl rfl
  have po := passes_of (X := cxOf (L2.CX P w) P w K mg base ["number", "found", "at", "some", "more"] "orders_of" (defScope s_orders_of) (He.ga K "orders_of") cdv A outer s H E) rfl
  exact (oss_cons (os_set (i := 1) nd (oe_lst (oa_cons (oe_lst oa_nil) oa_nil))) (oss_cons (os_for po rfl (oi_range1 T.f_range (oe_var 0)) (og_name nd) (oss_one (os_setLc2 (i := 1) rfl nd (oi_of (oe_var 1)) (own := [("some", 3), ("more", 4)]) (blkOk_by rfl) (by decide) (by decide) (by decide) (fun _ _ _ _ _ => (og_name nd)) (fun _ _ _ _ _ => ots_nil) (fun _ _ _ _ _ => (oi_range1 T.f_range (oe_var 0))) (fun _ _ _ _ _ => (og_name nd)) (fun _ _ _ _ _ => ots_one (ot_notIn2 hr.r (oe_var 4) (oe_var 3))) (fun _ _ _ _ _ => (oe_lst (oa_star (oe_var 3) (oa_cons (oe_var 4) oa_nil))))))) (oss_one (os_ret (oe_var 1)))))
theorem sc_renamed : FnScope ["near", "order", "found", "at", "bits", "other"] ["near", "order"] (defScope s_renamed) := ⟨rfl, rfl, rfl, by decide +kernel, rfl, by decide +kernel, by decide +kernel⟩
theorem g_renamed (T : Tp w K mg base) : GF P w K mg base "renamed" (defArgs s_renamed) ["near", "order"] 1 m_renamed := by
  obtain ⟨fd, F⟩ := T.d_renamed
  refine ⟨T.g_renamed, F.kp, fd, ?_, FunD.bindsN F (fun _ _ _ _ _ _ us hl => match us, hl with | [_, _], _ => rfl), Mir.FunD.hasPar F, Mir.FunD.at_ F⟩
  refine fn_ok (k := 0) F sc_renamed rfl fun cdv A outer s H E hr => ?_
  have nd := sc_renamed.nd
  have tk := takes_of (X := cxOf (L2.CX P w) P w K mg base ["near", "order", "found", "at", "bits", "other"] "renamed" (defScope s_renamed) (He.ga K "renamed") cdv A outer s H E) rfl rfl rfl rfl
  have po := passes_of (X := cxOf (L2.CX P w) P w K mg base ["near", "order", "found", "at", "bits", "other"] "renamed" (defScope s_renamed) (He.ga K "renamed") cdv A outer s H E) rfl
  exact (oss_cons (os_setLcC (i := 2) rfl nd (oi_of (oe_var 1)) (own := [("at", 3)]) (blkOk_by rfl) (by decide) (fun _ _ _ _ _ => (og_name nd)) (fun _ _ _ _ _ => ots_nil) (fun _ _ _ _ _ => oe_int)) (oss_cons (os_for po rfl (oi_enum T.f_enumerate (oe_var 0)) (og_tup rfl (ogs_cons (og_name nd) (ogs_cons (og_name nd) ogs_nil))) (oss_one (os_asg (oe_sum rfl T.f_sum (oe_lc rfl nd (oi_range1 T.f_range (oe_len T.f_len (oe_var 0))) (own := [("other", 5)]) (blkOk_by rfl) (by decide) (fun _ _ _ _ _ => (og_name nd)) (fun _ _ _ _ _ => ots_one (ot_eq hr.r (oe_band (oe_shr (oe_var 4) (oe_var 5)) oe_int) oe_int)) (fun _ _ _ _ _ => (oe_shl oe_int (oe_it (oe_var 1) (oe_var 5)))))) (og_sub (oe_var 2) (oe_it (oe_var 1) (oe_var 3)))))) (oss_one (os_ret (oe_var 2)))))
theorem sc_unlike_spaces : FnScope ["number", "kind", "near", "orders", "found", "text", "order"] ["number", "kind"] (defScope s_unlike_spaces) := ⟨rfl, rfl, rfl, by decide +kernel, rfl, by decide +kernel, by decide +kernel⟩
theorem g_unlike_spaces (T : Tp w K mg base) : GF P w K mg base "unlike_spaces" (defArgs s_unlike_spaces) ["number", "kind"] 6 m_unlike_spaces := by
  obtain ⟨fd, F⟩ := T.d_unlike_spaces
  refine ⟨T.g_unlike_spaces, F.kp, fd, ?_, FunD.bindsN F (fun _ _ _ _ _ _ us hl => match us, hl with | [_, _], _ => rfl), Mir.FunD.hasPar F, Mir.FunD.at_ F⟩
  refine fn_ok (k := 5) F sc_unlike_spaces rfl fun cdv A outer s H E hr => ?_
  have nd := sc_unlike_spaces.nd
  have tk := takes_of (X := cxOf (L2.CX P w) P w K mg base ["number", "kind", "near", "orders", "found", "text", "order"] "unlike_spaces" (defScope s_unlike_spaces) (He.ga K "unlike_spaces") cdv A outer s H E) rfl rfl rfl rfl
  have po := passes_of (X := cxOf (L2.CX P w) P w K mg base ["number", "kind", "near", "orders", "found", "text", "order"] "unlike_spaces" (defScope s_unlike_spaces) (He.ga K "unlike_spaces") cdv A outer s H E) rfl
  exact (oss_cons (os_expr (oe_fn (g_check_both T) hr (by decide) tk (oa_cons (oe_var 0) (oa_cons (oe_var 1) oa_nil)))) (oss_cons (os_par (i := 3) (j := 4) rfl nd (oa_cons (oe_fn (g_orders_of T) hr (by decide) tk (oa_cons (oe_var 0) oa_nil)) (oa_cons (oe_lstC oa_nil) oa_nil))) (oss_cons (os_for po rfl (oi_of (oe_fn (g_all_near T) hr (by decide) tk (oa_cons (oe_var 0) (oa_cons (oe_var 1) oa_nil)))) (og_name nd) (oss_cons (os_set (i := 5) nd (oe_fn (g_text_of T) hr (by decide) tk (oa_cons (oe_slice (oe_gV T.v_NAMES) oo_none (oo_some (oe_var 0))) (oa_cons (oe_var 2) oa_nil)))) (oss_one (os_if (ot_eq hr.r (oe_var 5) (oe_min rfl T.f_min (oe_lc rfl nd (oi_of (oe_var 3)) (own := [("order", 6)]) (blkOk_by rfl) (by decide) (fun _ _ _ _ _ => (og_name nd)) (fun _ _ _ _ _ => ots_nil) (fun _ _ _ _ _ => (oe_fn (g_text_of T) hr (by decide) Mir.takes0 (oa_cons (oe_slice (oe_gV T.v_NAMES) oo_none (oo_some (oe_var 0))) (oa_cons (oe_fn (g_renamed T) hr (by decide) Mir.takes0 (oa_cons (oe_var 2) (oa_cons (oe_var 6) oa_nil))) oa_nil))))))) (oss_one (os_expr (oe_append (oe_var 4) (oe_var 5)))) oss_nil)))) (oss_one (os_ret (oe_tupleC T.f_tuple (oe_lc rfl nd (oi_of (oe_sorted T.f_sorted (oe_var 4))) (own := [("text", 5)]) (blkOk_by rfl) (by decide) (fun _ _ _ _ _ => (og_name nd)) (fun _ _ _ _ _ => ots_nil) (fun _ _ _ _ _ => (oe_make false (g_Space___init__ T) hr (by decide) Mir.takes0 (oa_cons (oe_var 5) oa_nil))))))))))
theorem sc__law_listed : FnScope ["_law_many", "_law_word", "_law_told"] ["_law_many", "_law_word"] (defScope s__law_listed) := ⟨rfl, rfl, rfl, by decide +kernel, rfl, by decide +kernel, by decide +kernel⟩
theorem g__law_listed (T : Tp w K mg base) : GF P w K mg base "_law_listed" (defArgs s__law_listed) ["_law_many", "_law_word"] 9 m__law_listed := by
  obtain ⟨fd, F⟩ := T.d__law_listed
  refine ⟨T.g__law_listed, F.kp, fd, ?_, FunD.bindsN F (fun _ _ _ _ _ _ us hl => match us, hl with | [_, _], _ => rfl), Mir.FunD.hasPar F, Mir.FunD.at_ F⟩
  refine fn_okC (k := 8) F sc__law_listed rfl fun cdv A outer s H E hcd_ hr => ?_
  have nd := sc__law_listed.nd
  have tk := takes_of (X := cxOf (L2.CX P w) P w K mg base ["_law_many", "_law_word", "_law_told"] "_law_listed" (defScope s__law_listed) (He.ga K "_law_listed") cdv A outer s H E) rfl rfl rfl rfl
  have po := passes_of (X := cxOf (L2.CX P w) P w K mg base ["_law_many", "_law_word", "_law_told"] "_law_listed" (defScope s__law_listed) (He.ga K "_law_listed") cdv A outer s H E) rfl
  have hcode := lamC_of (x := "_law_listed") F hcd_
  exact (oss_cons (os_set (i := 2) nd (oe_lstC (oa_cons (oe_lamJ (jx := 1) (mk := "_law_listed") (j__law_caught T 4) rfl tk (hr.mono (by decide)) T.tb__law_listed hcode rfl (LamX.lamS_by (show LamX.lamSB (defScope s__law_listed) _ = true by decide +kernel)) rfl (fun _ _ _ _ _ => rfl) (fun _ _ _ _ _ _ _ hr => have tk := takes_of rfl rfl rfl rfl; (oe_fn (g_all_spaces T) hr (by decide) tk (oa_cons (oe_var 0) (oa_cons (oe_var 1) oa_nil))))) oa_nil))) (oss_cons (os_expr (oe_append (oe_var 2) (oe_lamJ (jx := 1) (mk := "_law_listed") (j__law_caught T 3) rfl tk (hr.mono (by decide)) T.tb__law_listed hcode rfl (LamX.lamS_by (show LamX.lamSB (defScope s__law_listed) _ = true by decide +kernel)) rfl (fun _ _ _ _ _ => rfl) (fun _ _ _ _ _ _ _ hr => have tk := takes_of rfl rfl rfl rfl; (oe_fnK0 (ks := ["kind", "number"]) (pm := [1, 0]) (g_count_spaces T) hr (by decide) tk (ok_cons (oe_var 1) (ok_cons (oe_var 0) ok_nil)) (fun _ _ _ _ _ _ _ _ _ _ us ws hu hw => match us, ws, hu, hw with | [], [_, _], _, _ => rfl)))))) (oss_cons (os_expr (oe_append (oe_var 2) (oe_lamJ (jx := 1) (mk := "_law_listed") (j__law_caught T 4) rfl tk (hr.mono (by decide)) T.tb__law_listed hcode rfl (LamX.lamS_by (show LamX.lamSB (defScope s__law_listed) _ = true by decide +kernel)) rfl (fun _ _ _ _ _ => rfl) (fun _ _ _ _ _ _ _ hr => have tk := takes_of rfl rfl rfl rfl; (oe_fn (g_unlike_spaces T) hr (by decide) tk (oa_cons (oe_var 0) (oa_cons (oe_var 1) oa_nil))))))) (oss_one (os_ret (oe_var 2))))))
theorem sc_count_terms : FnScope ["kind", "number", "cells"] ["kind", "number"] (defScope s_count_terms) := ⟨rfl, rfl, rfl, by decide +kernel, rfl, by decide +kernel, by decide +kernel⟩
theorem g_count_terms (T : Tp w K mg base) : GF P w K mg base "count_terms" (defArgs s_count_terms) ["kind", "number"] 4 m_count_terms := by
  obtain ⟨fd, F⟩ := T.d_count_terms
  refine ⟨T.g_count_terms, F.kp, fd, ?_, FunD.bindsN F (fun _ _ _ _ _ _ us hl => match us, hl with | [_, _], _ => rfl), Mir.FunD.hasPar F, Mir.FunD.at_ F⟩
  refine fn_ok (k := 3) F sc_count_terms rfl fun cdv A outer s H E hr => ?_
  have nd := sc_count_terms.nd
  have tk := takes_of (X := cxOf (L2.CX P w) P w K mg base ["kind", "number", "cells"] "count_terms" (defScope s_count_terms) (He.ga K "count_terms") cdv A outer s H E) rfl rfl rfl rfl
  have po := passes_of (X := cxOf (L2.CX P w) P w K mg base ["kind", "number", "cells"] "count_terms" (defScope s_count_terms) (He.ga K "count_terms") cdv A outer s H E) rfl
  exact (oss_cons (os_expr (oe_fn (g_check_kind T) hr (by decide) tk (oa_cons (oe_var 0) oa_nil))) (oss_cons (os_if (ot_not (ot_val (oe_fn (g_is_between T) hr (by decide) tk (oa_cons (oe_var 1) (oa_cons oe_int (oa_cons (oe_len T.f_len (oe_gV T.v_SETS)) oa_nil)))))) (oss_one (os_raise (x_InvalidNumber T) hr (by decide) rfl tk (oa_cons (oe_var 1) oa_nil))) oss_nil) (oss_cons (os_set (i := 2) nd (oe_shl oe_int (oe_var 1))) (oss_cons (os_if (ot_eq hr.r (oe_var 0) oe_str) (oss_one (os_ret (oe_shl oe_int (oe_var 2)))) oss_nil) (oss_cons (os_if (ot_eq hr.r (oe_var 0) oe_str) (oss_one (os_ret (oe_shl oe_int (oe_shl (oe_var 2) (oe_sub (oe_var 2) oe_int))))) oss_nil) (oss_one (os_ret (oe_if (ot_eq hr.r (oe_var 1) oe_int) oe_int oe_non))))))))
theorem sc__law_right : FnScope ["_law_jar_here", "_law_odd", "_law_wrong", "_law_many", "_law_told", "_law_far", "_law_own", "_law_word"] ["_law_jar_here"] (defScope s__law_right) := ⟨rfl, rfl, rfl, by decide +kernel, rfl, by decide +kernel, by decide +kernel⟩
theorem g__law_right (T : Tp w K mg base) : GF P w K mg base "_law_right" (defArgs s__law_right) ["_law_jar_here"] 11 m__law_right := by
  obtain ⟨fd, F⟩ := T.d__law_right
  refine ⟨T.g__law_right, F.kp, fd, ?_, FunD.bindsN F (fun _ _ _ _ _ _ us hl => match us, hl with | [_], _ => rfl), Mir.FunD.hasPar F, Mir.FunD.at_ F⟩
  refine fn_okC (k := 10) F sc__law_right rfl fun cdv A outer s H E hcd_ hr => ?_
  have nd := sc__law_right.nd
  have tk := takes_of (X := cxOf (L2.CX P w) P w K mg base ["_law_jar_here", "_law_odd", "_law_wrong", "_law_many", "_law_told", "_law_far", "_law_own", "_law_word"] "_law_right" (defScope s__law_right) (He.ga K "_law_right") cdv A outer s H E) rfl rfl rfl rfl
  have po := passes_of (X := cxOf (L2.CX P w) P w K mg base ["_law_jar_here", "_law_odd", "_law_wrong", "_law_many", "_law_told", "_law_far", "_law_own", "_law_word"] "_law_right" (defScope s__law_right) (He.ga K "_law_right") cdv A outer s H E) rfl
  have hcode := lamC_of (x := "_law_right") F hcd_
  exact (oss_cons (os_set (i := 1) nd (oe_fn (g__law_take T) hr (by decide) tk (oa_cons (oe_var 0) (oa_cons (oe_lst (oa_cons oe_non (oa_cons oe_str (oa_cons oe_int (oa_cons oe_bl (oa_cons (oe_tup oa_nil) (oa_cons (oe_lst oa_nil) (oa_cons oe_dct0 (oa_cons (oe_tup (oa_cons oe_str oa_nil)) (oa_cons oe_str (oa_cons (oe_neg oe_int) oa_nil))))))))))) oa_nil)))) (oss_cons (os_set (i := 2) nd (oe_fn (g__law_take T) hr (by decide) tk (oa_cons (oe_var 0) (oa_cons (oe_lst (oa_cons oe_str (oa_cons oe_str (oa_cons oe_non (oa_cons oe_int (oa_cons (oe_tup (oa_cons oe_str oa_nil)) (oa_cons (oe_lst (oa_cons oe_str oa_nil)) (oa_cons oe_str (oa_cons oe_bl oa_nil))))))))) oa_nil)))) (oss_cons (os_parG rfl (oa_cons (oe_make false (g_Term___init__ T) hr (by decide) tk (oa_cons (oe_fn (g__law_term T 7) hr (by decide) tk (oa_cons (oe_var 0) (oa_cons (oe_lst (oa_cons oe_str (oa_cons oe_str oa_nil))) (oa_cons oe_int (oa_cons oe_int oa_nil))))) oa_nil)) (oa_cons (oe_fn (g__law_take T) hr (by decide) tk (oa_cons (oe_var 0) (oa_cons (oe_fn0 (g__law_kinds T) hr (by decide) tk) oa_nil))) oa_nil)) (ogs_cons (og_name nd) (ogs_cons (og_name nd) ogs_nil))) (oss_cons (os_set (i := 3) nd (oe_fn (g__law_take T) hr (by decide) tk (oa_cons (oe_var 0) (oa_cons (oe_lst (oa_cons oe_non (oa_cons oe_int (oa_cons oe_int (oa_cons oe_bl (oa_cons (oe_neg oe_int) (oa_cons oe_str (oa_cons (oe_tup (oa_cons oe_int oa_nil)) (oa_cons (oe_lst (oa_cons oe_int oa_nil)) (oa_cons (oe_pow oe_int oe_int) oa_nil)))))))))) oa_nil)))) (oss_cons (os_set (i := 4) nd (oe_lstC (oa_cons (oe_lamJ (jx := 0) (mk := "_law_right") (j__law_caught T 4) rfl tk (hr.mono (by decide)) T.tb__law_right hcode rfl (LamX.lamS_by (show LamX.lamSB (defScope s__law_right) _ = true by decide +kernel)) rfl (fun _ _ _ _ _ => rfl) (fun _ _ _ _ _ _ _ hr => have tk := takes_of rfl rfl rfl rfl; (oe_fn (g_least_points T) hr (by decide) tk (oa_cons (oe_var 1) (oa_cons (oe_var 1) (oa_cons (oe_var 2) (oa_cons (oe_var 3) oa_nil))))))) oa_nil))) (oss_cons (os_expr (oe_append (oe_var 4) (oe_lamJ (jx := 0) (mk := "_law_right") (j__law_caught T 4) rfl tk (hr.mono (by decide)) T.tb__law_right hcode rfl (LamX.lamS_by (show LamX.lamSB (defScope s__law_right) _ = true by decide +kernel)) rfl (fun _ _ _ _ _ => rfl) (fun _ _ _ _ _ _ _ hr => have tk := takes_of rfl rfl rfl rfl; (oe_fn (g_least_points T) hr (by decide) tk (oa_cons (oe_var 6) (oa_cons (oe_var 1) (oa_cons (oe_var 2) (oa_cons (oe_var 3) oa_nil))))))))) (oss_cons (os_expr (oe_append (oe_var 4) (oe_lamJ (jx := 0) (mk := "_law_right") (j__law_caught T 4) rfl tk (hr.mono (by decide)) T.tb__law_right hcode rfl (LamX.lamS_by (show LamX.lamSB (defScope s__law_right) _ = true by decide +kernel)) rfl (fun _ _ _ _ _ => rfl) (fun _ _ _ _ _ _ _ hr => have tk := takes_of rfl rfl rfl rfl; (oe_fn (g_least_points T) hr (by decide) tk (oa_cons (oe_var 6) (oa_cons (oe_var 6) (oa_cons (oe_var 2) (oa_cons (oe_var 3) oa_nil))))))))) (oss_cons (os_expr (oe_append (oe_var 4) (oe_lamJ (jx := 0) (mk := "_law_right") (j__law_caught T 4) rfl tk (hr.mono (by decide)) T.tb__law_right hcode rfl (LamX.lamS_by (show LamX.lamSB (defScope s__law_right) _ = true by decide +kernel)) rfl (fun _ _ _ _ _ => rfl) (fun _ _ _ _ _ _ _ hr => have tk := takes_of rfl rfl rfl rfl; (oe_fnK0 (ks := ["number", "kind", "other", "one"]) (pm := [3, 2, 1, 0]) (g_least_points T) hr (by decide) tk (ok_cons (oe_var 3) (ok_cons (oe_var 7) (ok_cons (oe_var 6) (ok_cons (oe_var 6) ok_nil)))) (fun _ _ _ _ _ _ _ _ _ _ us ws hu hw => match us, ws, hu, hw with | [], [_, _, _, _], _, _ => rfl)))))) (oss_cons (os_if (ot_neX hr.r (oe_var 4) (oe_add (oe_mul (oe_lst (oa_cons (oe_tup (oa_cons oe_str (oa_cons (oe_var 1) oa_nil))) oa_nil)) oe_int) (oe_lst (oa_cons (oe_tup (oa_cons oe_str (oa_cons (oe_var 2) oa_nil))) (oa_cons (oe_tup (oa_cons oe_str (oa_cons (oe_var 3) oa_nil))) oa_nil))))) (oss_one (os_ret oe_bl)) oss_nil) (oss_cons (os_if (ot_neX hr.r (oe_fn (g__law_listed T) hr (by decide) tk (oa_cons (oe_var 3) (oa_cons (oe_var 2) oa_nil))) (oe_mul (oe_lst (oa_cons (oe_tup (oa_cons oe_str (oa_cons (oe_var 3) oa_nil))) oa_nil)) oe_int)) (oss_one (os_ret oe_bl)) oss_nil) (oss_cons (os_if (ot_neX hr.r (oe_fn (g__law_listed T) hr (by decide) tk (oa_cons oe_int (oa_cons (oe_var 2) oa_nil))) (oe_mul (oe_lst (oa_cons (oe_tup (oa_cons oe_str (oa_cons (oe_var 2) oa_nil))) oa_nil)) oe_int)) (oss_one (os_ret oe_bl)) oss_nil) (oss_cons (os_set (i := 5) nd (oe_fn (g__law_take T) hr (by decide) tk (oa_cons (oe_var 0) (oa_cons (oe_lst (oa_cons oe_non (oa_cons oe_int (oa_cons oe_bl (oa_cons (oe_neg oe_int) (oa_cons oe_str (oa_cons (oe_tup (oa_cons oe_int oa_nil)) (oa_cons (oe_lst (oa_cons oe_int oa_nil)) (oa_cons (oe_pow oe_int oe_int) oa_nil))))))))) oa_nil)))) (oss_cons (os_set (i := 4) nd (oe_lstC (oa_cons (oe_lamJ (jx := 0) (mk := "_law_right") (j__law_caught T 2) rfl tk (hr.mono (by decide)) T.tb__law_right hcode rfl (LamX.lamS_by (show LamX.lamSB (defScope s__law_right) _ = true by decide +kernel)) rfl (fun _ _ _ _ _ => rfl) (fun _ _ _ _ _ _ _ hr => have tk := takes_of rfl rfl rfl rfl; (oe_fn (g_count_terms T) hr (by decide) tk (oa_cons (oe_var 2) (oa_cons (oe_var 5) oa_nil))))) oa_nil))) (oss_cons (os_expr (oe_append (oe_var 4) (oe_lamJ (jx := 0) (mk := "_law_right") (j__law_caught T 2) rfl tk (hr.mono (by decide)) T.tb__law_right hcode rfl (LamX.lamS_by (show LamX.lamSB (defScope s__law_right) _ = true by decide +kernel)) rfl (fun _ _ _ _ _ => rfl) (fun _ _ _ _ _ _ _ hr => have tk := takes_of rfl rfl rfl rfl; (oe_fnK0 (ks := ["number", "kind"]) (pm := [1, 0]) (g_count_terms T) hr (by decide) tk (ok_cons (oe_var 5) (ok_cons (oe_var 7) ok_nil)) (fun _ _ _ _ _ _ _ _ _ _ us ws hu hw => match us, ws, hu, hw with | [], [_, _], _, _ => rfl)))))) (oss_one (os_ret (oe_eqX hr.r (oe_var 4) (oe_lst (oa_cons (oe_tup (oa_cons oe_str (oa_cons (oe_var 2) oa_nil))) (oa_cons (oe_tup (oa_cons oe_str (oa_cons (oe_var 5) oa_nil))) oa_nil))))))))))))))))))))
theorem sc__law_cell : FnScope ["_law_cells", "_law_spot", "_law_mixed", "_law_number"] ["_law_cells", "_law_spot"] (defScope s__law_cell) := ⟨rfl, rfl, rfl, by decide +kernel, rfl, by decide +kernel, by decide +kernel⟩
theorem g__law_cell (T : Tp w K mg base) : GF P w K mg base "_law_cell" (defArgs s__law_cell) ["_law_cells", "_law_spot"] 1 m__law_cell := by
  obtain ⟨fd, F⟩ := T.d__law_cell
  refine ⟨T.g__law_cell, F.kp, fd, ?_, FunD.bindsN F (fun _ _ _ _ _ _ us hl => match us, hl with | [_, _], _ => rfl), Mir.FunD.hasPar F, Mir.FunD.at_ F⟩
  refine fn_ok (k := 0) F sc__law_cell rfl fun cdv A outer s H E hr => ?_
  have nd := sc__law_cell.nd
  have tk := takes_of (X := cxOf (L2.CX P w) P w K mg base ["_law_cells", "_law_spot", "_law_mixed", "_law_number"] "_law_cell" (defScope s__law_cell) (He.ga K "_law_cell") cdv A outer s H E) rfl rfl rfl rfl
  have po := passes_of (X := cxOf (L2.CX P w) P w K mg base ["_law_cells", "_law_spot", "_law_mixed", "_law_number"] "_law_cell" (defScope s__law_cell) (He.ga K "_law_cell") cdv A outer s H E) rfl
  exact (oss_cons (os_if (ot_lt (oe_var 1) (oe_len T.f_len (oe_var 0))) (oss_one (os_ret (oe_intC T.f_int (oe_it (oe_var 0) (oe_var 1))))) oss_nil) (oss_cons (os_set (i := 2) nd (oe_add (oe_mul oe_int (oe_var 1)) oe_int)) (oss_cons (os_for po rfl (oi_of (oe_slice (oe_var 0) oo_none (oo_some oe_int))) (og_name nd) (oss_one (os_set (i := 2) nd (oe_mod (oe_intC T.f_int (oe_add (oe_add (oe_mul (oe_var 2) oe_int) (oe_var 3)) oe_int)) oe_int)))) (oss_one (os_ret (oe_var 2))))))
theorem sc__law_jar : FnScope ["_law_cells", "_law_spot", "_law_cell_here"] ["_law_cells", "_law_spot"] (defScope s__law_jar) := ⟨rfl, rfl, rfl, by decide +kernel, rfl, by decide +kernel, by decide +kernel⟩
theorem g__law_jar (T : Tp w K mg base) : GF P w K mg base "_law_jar" (defArgs s__law_jar) ["_law_cells", "_law_spot"] 2 m__law_jar := by
  obtain ⟨fd, F⟩ := T.d__law_jar
  refine ⟨T.g__law_jar, F.kp, fd, ?_, FunD.bindsN F (fun _ _ _ _ _ _ us hl => match us, hl with | [_, _], _ => rfl), Mir.FunD.hasPar F, Mir.FunD.at_ F⟩
  refine fn_okK (k := 1) F sc__law_jar rfl fun cdv A outer s H E hr => ?_
  have nd := sc__law_jar.nd
  have tk := takes_of (X := cxOf (L2.CX P w) P w K mg base ["_law_cells", "_law_spot", "_law_cell_here"] "_law_jar" (defScope s__law_jar) (He.ga K "_law_jar") cdv A outer s H E) rfl rfl rfl rfl
  have po := passes_of (X := cxOf (L2.CX P w) P w K mg base ["_law_cells", "_law_spot", "_law_cell_here"] "_law_jar" (defScope s__law_jar) (He.ga K "_law_jar") cdv A outer s H E) rfl
  exact (oss_cons (os_set (i := 2) nd (oe_abs T.f_abs (oe_fn (g__law_cell T) hr (by decide) tk (oa_cons (oe_var 0) (oa_cons (oe_var 1) oa_nil))))) (oss_one (os_ret (oe_lstC (oa_cons (oe_var 2) (oa_cons (oe_mod (oe_intC T.f_int (oe_add (oe_var 2) (oe_mul oe_int (oe_var 1)))) oe_int) (oa_cons oe_int oa_nil)))))))
theorem sc_law : FnScope ["_law_cells", "_law_k"] ["_law_cells"] (defScope s_law) := ⟨rfl, rfl, rfl, by decide +kernel, rfl, by decide +kernel, by decide +kernel⟩
theorem g_law (T : Tp w K mg base) : GF P w K mg base "law" (defArgs s_law) ["_law_cells"] 12 m_law := by
  obtain ⟨fd, F⟩ := T.d_law
  refine ⟨T.g_law, F.kp, fd, ?_, FunD.bindsN F (fun _ _ _ _ _ _ us hl => match us, hl with | [_], _ => rfl), Mir.FunD.hasPar F, Mir.FunD.at_ F⟩
  refine fn_ok (k := 11) F sc_law rfl fun cdv A outer s H E hr => ?_
  have nd := sc_law.nd
  have tk := takes_of (X := cxOf (L2.CX P w) P w K mg base ["_law_cells", "_law_k"] "law" (defScope s_law) (He.ga K "law") cdv A outer s H E) rfl rfl rfl rfl
  have po := passes_of (X := cxOf (L2.CX P w) P w K mg base ["_law_cells", "_law_k"] "law" (defScope s_law) (He.ga K "law") cdv A outer s H E) rfl
  exact (oss_one (os_ret (oe_all rfl T.f_all (oe_lc rfl nd (oi_range1 T.f_range (oe_max2 rfl T.f_max oe_int (oe_min2 rfl T.f_min (oe_len T.f_len (oe_var 0)) oe_int))) (own := [("_law_k", 1)]) (blkOk_by rfl) (by decide) (fun _ _ _ _ _ => (og_name nd)) (fun _ _ _ _ _ => ots_nil) (fun _ _ _ _ _ => (oe_cut (oe_fn (g__law_right T) hr (by decide) Mir.takes0 (oa_cons (oe_fn (g__law_jar T) hr (by decide) Mir.takes0 (oa_cons (oe_var 0) (oa_cons (oe_var 1) oa_nil))) oa_nil))))))))
end
def ck (K : PySem.W.Frag) : Bool := (He.Fa.free "abs").ok K && ((He.Fa.free "all").ok K && ((He.Fa.free "any").ok K && ((He.Fa.free "bool").ok K && ((He.Fa.free "dict").ok K && ((He.Fa.free "divmod").ok K && ((He.Fa.free "enumerate").ok K && ((He.Fa.free "int").ok K && ((He.Fa.free "isinstance").ok K && ((He.Fa.free "len").ok K && ((He.Fa.free "max").ok K && ((He.Fa.free "min").ok K && ((He.Fa.free "range").ok K && ((He.Fa.free "sorted").ok K && ((He.Fa.free "str").ok K && ((He.Fa.free "sum").ok K && ((He.Fa.free "tuple").ok K && ((He.Fa.free "zip").ok K && (gloB K "DEEDS" (.tup [(.str [99]), (.str [105]), (.str [110])]) && (gloB K "DIGITS" (.str [48, 49, 50, 51, 52, 53, 54, 55, 56, 57]) && (gloB K "KINDS" (.tup [(.str [97, 108, 108]), (.str [109, 101, 101, 116, 105, 110, 103]), (.str [112, 105, 110, 110, 101, 100]), (.str [98, 111, 116, 104]), (.str [112, 97, 114, 116, 101, 100]), (.str [112, 108, 97, 105, 110])]) && (gloB K "LETTERS" (.str [97, 98, 99, 100, 101, 102, 103, 104, 105, 106, 107, 108, 109, 110, 111, 112, 113, 114, 115, 116, 117, 118, 119, 120, 121, 122]) && (gloB K "LONGEST" (.int 8) && (gloB K "MOST_LISTED" (.int 4) && (gloB K "MOST_POINTS" (.int 256) && (gloB K "MOST_SIGNS" (.int 300) && (gloB K "NAMES" (.tup [(.str [97]), (.str [98]), (.str [99]), (.str [100])]) && (gloB K "PLAIN" (.tup [(.str [120]), (.str [121]), (.str [122]), (.str [48]), (.str [49])]) && (gloB K "SETS" (.tup [(.str [120]), (.str [121]), (.str [122])]) && (tupB K "SETS" [(.str [120]), (.str [121]), (.str [122])] && ((He.Fa.glo "InvalidKind").ok K && ((He.Fa.glo "InvalidNumber").ok K && ((He.Fa.glo "InvalidPremises").ok K && ((He.Fa.glo "InvalidSet").ok K && ((He.Fa.glo "InvalidText").ok K && ((He.Fa.glo "InvalidWord").ok K && ((He.Fa.glo "NoAnswer").ok K && ((He.Fa.glo "NotASpace").ok K && ((He.Fa.glo "NotATerm").ok K && ((He.Fa.glo "Rows").ok K && ((He.Fa.glo "Space").ok K && ((He.Fa.glo "Term").ok K && ((He.Fa.glo "TooMany").ok K && ((He.Fa.glo "WrongName").ok K && ((He.Fa.glo "WrongValue").ok K && ((He.Fa.glo "_law_caught").ok K && ((He.Fa.glo "_law_cell").ok K && ((He.Fa.glo "_law_dig").ok K && ((He.Fa.glo "_law_jar").ok K && ((He.Fa.glo "_law_kinds").ok K && ((He.Fa.glo "_law_listed").ok K && ((He.Fa.glo "_law_right").ok K && ((He.Fa.glo "_law_sort").ok K && ((He.Fa.glo "_law_take").ok K && ((He.Fa.glo "_law_term").ok K && ((He.Fa.glo "all_bits").ok K && ((He.Fa.glo "all_lots").ok K && ((He.Fa.glo "all_near").ok K && ((He.Fa.glo "all_spaces").ok K && ((He.Fa.glo "bits_at").ok K && ((He.Fa.glo "bits_of").ok K && ((He.Fa.glo "bits_of_row").ok K && ((He.Fa.glo "check_both").ok K && ((He.Fa.glo "check_kind").ok K && ((He.Fa.glo "check_listed").ok K && ((He.Fa.glo "check_term").ok K && ((He.Fa.glo "closure_of").ok K && ((He.Fa.glo "count_spaces").ok K && ((He.Fa.glo "count_terms").ok K && ((He.Fa.glo "indexes_of").ok K && ((He.Fa.glo "inside_of").ok K && ((He.Fa.glo "is_between").ok K && ((He.Fa.glo "is_integer").ok K && ((He.Fa.glo "is_kind").ok K && ((He.Fa.glo "is_meeting").ok K && ((He.Fa.glo "is_name").ok K && ((He.Fa.glo "is_ordered").ok K && ((He.Fa.glo "is_parted").ok K && ((He.Fa.glo "is_parted_by").ok K && ((He.Fa.glo "is_pinned").ok K && ((He.Fa.glo "is_seeing").ok K && ((He.Fa.glo "is_text").ok K && ((He.Fa.glo "law").ok K && ((He.Fa.glo "least_points").ok K && ((He.Fa.glo "listed_texts").ok K && ((He.Fa.glo "orders_of").ok K && ((He.Fa.glo "read_into").ok K && ((He.Fa.glo "read_row").ok K && ((He.Fa.glo "read_space").ok K && ((He.Fa.glo "renamed").ok K && ((He.Fa.glo "text_of").ok K && ((He.Fa.glo "unlike_spaces").ok K && ((He.Fa.cls "Rows").ok K && ((He.Fa.cls "Space").ok K && ((He.Fa.cls "Term").ok K && ((He.Fa.noat "Rows" "found").ok K && ((He.Fa.noat "Rows" "listed").ok K && ((He.Fa.noat "Space" "order").ok K && ((He.Fa.noat "Space" "seen").ok K && ((He.Fa.noat "Space" "told").ok K && ((He.Fa.noat "Term" "told").ok K && (exkB K "InvalidKind" && (exkB K "InvalidNumber" && (exkB K "InvalidPremises" && (exkB K "InvalidSet" && (exkB K "InvalidText" && (exkB K "InvalidWord" && (exkB K "NotASpace" && (exkB K "NotATerm" && (exkB K "TooMany" && (exiB K "InvalidKind" && (exiB K "InvalidNumber" && (exiB K "InvalidText" && (exiB K "NotATerm" && (exnB K "InvalidKind" "given" && (exnB K "InvalidNumber" "given" && (exnB K "InvalidPremises" "index" && (exnB K "InvalidSet" "given" && (exnB K "InvalidText" "given" && (exnB K "InvalidWord" "given" && (exnB K "NotASpace" "given" && (exnB K "NotATerm" "given" && (exnB K "TooMany" "limit" && (ktB K exK && (sbB K exT && ((He.Fa.meth "Rows" "number_of").ok K && ((He.Fa.mkr "Rows").ok K && ((He.Fa.mkr "Term").ok K && ((He.Fa.mkr "Space").ok K && (isiB K isiCs)))))))))))))))))))))))))))))))))))))))))))))))))))))))))))))))))))))))))))))))))))))))))))))))))))))))))))))))))))))))))))))))))
def fns : List DefM := [⟨fun K => He.ga K "_law_dig", "_law_dig", "_law_dig", defArgs s__law_dig, defBody s__law_dig, defScope s__law_dig⟩,
  ⟨fun K => He.ga K "_law_take", "_law_take", "_law_take", defArgs s__law_take, defBody s__law_take, defScope s__law_take⟩,
  ⟨fun K => He.ga K "_law_kinds", "_law_kinds", "_law_kinds", defArgs s__law_kinds, defBody s__law_kinds, defScope s__law_kinds⟩,
  ⟨fun K => He.ma K (He.ga K "Rows") "number_of", "number_of", "Rows.number_of", defArgs s_Rows_number_of, defBody s_Rows_number_of, defScope s_Rows_number_of⟩,
  ⟨fun K => He.ga K "read_into", "read_into", "read_into", defArgs s_read_into, defBody s_read_into, defScope s_read_into⟩,
  ⟨fun K => He.ma K (He.ga K "Rows") "__init__", "__init__", "Rows.__init__", defArgs s_Rows___init__, defBody s_Rows___init__, defScope s_Rows___init__⟩,
  ⟨fun K => He.ga K "is_text", "is_text", "is_text", defArgs s_is_text, defBody s_is_text, defScope s_is_text⟩,
  ⟨fun K => He.ma K (He.ga K "Term") "__init__", "__init__", "Term.__init__", defArgs s_Term___init__, defBody s_Term___init__, defScope s_Term___init__⟩,
  ⟨fun K => He.ga K "_law_term", "_law_term", "_law_term", defArgs s__law_term, defBody s__law_term, defScope s__law_term⟩,
  ⟨fun K => He.ga K "_law_sort", "_law_sort", "_law_sort", defArgs s__law_sort, defBody s__law_sort, defScope s__law_sort⟩,
  ⟨fun K => He.ga K "_law_caught", "_law_caught", "_law_caught", defArgs s__law_caught, defBody s__law_caught, defScope s__law_caught⟩,
  ⟨fun K => He.ga K "check_term", "check_term", "check_term", defArgs s_check_term, defBody s_check_term, defScope s_check_term⟩,
  ⟨fun K => He.ga K "check_kind", "check_kind", "check_kind", defArgs s_check_kind, defBody s_check_kind, defScope s_check_kind⟩,
  ⟨fun K => He.ga K "is_integer", "is_integer", "is_integer", defArgs s_is_integer, defBody s_is_integer, defScope s_is_integer⟩,
  ⟨fun K => He.ga K "is_between", "is_between", "is_between", defArgs s_is_between, defBody s_is_between, defScope s_is_between⟩,
  ⟨fun K => He.ga K "check_listed", "check_listed", "check_listed", defArgs s_check_listed, defBody s_check_listed, defScope s_check_listed⟩,
  ⟨fun K => He.ga K "indexes_of", "indexes_of", "indexes_of", defArgs s_indexes_of, defBody s_indexes_of, defScope s_indexes_of⟩,
  ⟨fun K => He.ga K "is_seeing", "is_seeing", "is_seeing", defArgs s_is_seeing, defBody s_is_seeing, defScope s_is_seeing⟩,
  ⟨fun K => He.ga K "is_meeting", "is_meeting", "is_meeting", defArgs s_is_meeting, defBody s_is_meeting, defScope s_is_meeting⟩,
  ⟨fun K => He.ga K "is_pinned", "is_pinned", "is_pinned", defArgs s_is_pinned, defBody s_is_pinned, defScope s_is_pinned⟩,
  ⟨fun K => He.ga K "is_parted", "is_parted", "is_parted", defArgs s_is_parted, defBody s_is_parted, defScope s_is_parted⟩,
  ⟨fun K => He.ga K "is_kind", "is_kind", "is_kind", defArgs s_is_kind, defBody s_is_kind, defScope s_is_kind⟩,
  ⟨fun K => He.ga K "all_near", "all_near", "all_near", defArgs s_all_near, defBody s_all_near, defScope s_all_near⟩,
  ⟨fun K => He.ga K "all_lots", "all_lots", "all_lots", defArgs s_all_lots, defBody s_all_lots, defScope s_all_lots⟩,
  ⟨fun K => He.ga K "all_bits", "all_bits", "all_bits", defArgs s_all_bits, defBody s_all_bits, defScope s_all_bits⟩,
  ⟨fun K => He.ga K "closure_of", "closure_of", "closure_of", defArgs s_closure_of, defBody s_closure_of, defScope s_closure_of⟩,
  ⟨fun K => He.ga K "inside_of", "inside_of", "inside_of", defArgs s_inside_of, defBody s_inside_of, defScope s_inside_of⟩,
  ⟨fun K => He.ga K "bits_of_row", "bits_of_row", "bits_of_row", defArgs s_bits_of_row, defBody s_bits_of_row, defScope s_bits_of_row⟩,
  ⟨fun K => He.ga K "bits_at", "bits_at", "bits_at", defArgs s_bits_at, defBody s_bits_at, defScope s_bits_at⟩,
  ⟨fun K => He.ga K "is_parted_by", "is_parted_by", "is_parted_by", defArgs s_is_parted_by, defBody s_is_parted_by, defScope s_is_parted_by⟩,
  ⟨fun K => He.ga K "least_points", "least_points", "least_points", defArgs s_least_points, defBody s_least_points, defScope s_least_points⟩,
  ⟨fun K => He.ga K "check_both", "check_both", "check_both", defArgs s_check_both, defBody s_check_both, defScope s_check_both⟩,
  ⟨fun K => He.ga K "text_of", "text_of", "text_of", defArgs s_text_of, defBody s_text_of, defScope s_text_of⟩,
  ⟨fun K => He.ga K "listed_texts", "listed_texts", "listed_texts", defArgs s_listed_texts, defBody s_listed_texts, defScope s_listed_texts⟩,
  ⟨fun K => He.ga K "is_name", "is_name", "is_name", defArgs s_is_name, defBody s_is_name, defScope s_is_name⟩,
  ⟨fun K => He.ga K "read_row", "read_row", "read_row", defArgs s_read_row, defBody s_read_row, defScope s_read_row⟩,
  ⟨fun K => He.ga K "is_ordered", "is_ordered", "is_ordered", defArgs s_is_ordered, defBody s_is_ordered, defScope s_is_ordered⟩,
  ⟨fun K => He.ga K "bits_of", "bits_of", "bits_of", defArgs s_bits_of, defBody s_bits_of, defScope s_bits_of⟩,
  ⟨fun K => He.ga K "read_space", "read_space", "read_space", defArgs s_read_space, defBody s_read_space, defScope s_read_space⟩,
  ⟨fun K => He.ma K (He.ga K "Space") "__init__", "__init__", "Space.__init__", defArgs s_Space___init__, defBody s_Space___init__, defScope s_Space___init__⟩,
  ⟨fun K => He.ga K "all_spaces", "all_spaces", "all_spaces", defArgs s_all_spaces, defBody s_all_spaces, defScope s_all_spaces⟩,
  ⟨fun K => He.ga K "count_spaces", "count_spaces", "count_spaces", defArgs s_count_spaces, defBody s_count_spaces, defScope s_count_spaces⟩,
  ⟨fun K => He.ga K "orders_of", "orders_of", "orders_of", defArgs s_orders_of, defBody s_orders_of, defScope s_orders_of⟩,
  ⟨fun K => He.ga K "renamed", "renamed", "renamed", defArgs s_renamed, defBody s_renamed, defScope s_renamed⟩,
  ⟨fun K => He.ga K "unlike_spaces", "unlike_spaces", "unlike_spaces", defArgs s_unlike_spaces, defBody s_unlike_spaces, defScope s_unlike_spaces⟩,
  ⟨fun K => He.ga K "_law_listed", "_law_listed", "_law_listed", defArgs s__law_listed, defBody s__law_listed, defScope s__law_listed⟩,
  ⟨fun K => He.ga K "count_terms", "count_terms", "count_terms", defArgs s_count_terms, defBody s_count_terms, defScope s_count_terms⟩,
  ⟨fun K => He.ga K "_law_right", "_law_right", "_law_right", defArgs s__law_right, defBody s__law_right, defScope s__law_right⟩,
  ⟨fun K => He.ga K "_law_cell", "_law_cell", "_law_cell", defArgs s__law_cell, defBody s__law_cell, defScope s__law_cell⟩,
  ⟨fun K => He.ga K "_law_jar", "_law_jar", "_law_jar", defArgs s__law_jar, defBody s__law_jar, defScope s__law_jar⟩,
  ⟨fun K => He.ga K "law", "law", "law", defArgs s_law, defBody s_law, defScope s_law⟩,
  ⟨fun K => He.ma K (He.ga K "InvalidKind") "__init__", "__init__", "InvalidKind.__init__", defArgs s_InvalidKind___init__, defBody s_InvalidKind___init__, defScope s_InvalidKind___init__⟩,
  ⟨fun K => He.ma K (He.ga K "InvalidNumber") "__init__", "__init__", "InvalidNumber.__init__", defArgs s_InvalidNumber___init__, defBody s_InvalidNumber___init__, defScope s_InvalidNumber___init__⟩,
  ⟨fun K => He.ma K (He.ga K "InvalidText") "__init__", "__init__", "InvalidText.__init__", defArgs s_InvalidText___init__, defBody s_InvalidText___init__, defScope s_InvalidText___init__⟩,
  ⟨fun K => He.ma K (He.ga K "NotATerm") "__init__", "__init__", "NotATerm.__init__", defArgs s_NotATerm___init__, defBody s_NotATerm___init__, defScope s_NotATerm___init__⟩]
def tabs : List He.Tab := []
theorem tp_of {w : World} {K : PySem.W.Frag} {h base : Heap} {mg : Str → Option Value} (X : K.In h) (G : h.Ns mainGlobals mg) (cL : SaysML ck fns tabs lams w h K) (TBs : ∀ p ∈ lams, LamX.TabB base mg (lamC K p.1) (lamT K p.1)) : Tp w K mg base := by
  have cT := cL.t
  have c := cT.m
  have h0 := c.chk
  obtain ⟨a0, h1⟩ := He.ba h0
  obtain ⟨a1, h2⟩ := He.ba h1
  obtain ⟨a2, h3⟩ := He.ba h2
  obtain ⟨a3, h4⟩ := He.ba h3
  obtain ⟨a4, h5⟩ := He.ba h4
  obtain ⟨a5, h6⟩ := He.ba h5
  obtain ⟨a6, h7⟩ := He.ba h6
  obtain ⟨a7, h8⟩ := He.ba h7
  obtain ⟨a8, h9⟩ := He.ba h8
  obtain ⟨a9, h10⟩ := He.ba h9
  obtain ⟨a10, h11⟩ := He.ba h10
  obtain ⟨a11, h12⟩ := He.ba h11
  obtain ⟨a12, h13⟩ := He.ba h12
  obtain ⟨a13, h14⟩ := He.ba h13
  obtain ⟨a14, h15⟩ := He.ba h14
  obtain ⟨a15, h16⟩ := He.ba h15
  obtain ⟨a16, h17⟩ := He.ba h16
  obtain ⟨a17, h18⟩ := He.ba h17
  obtain ⟨a18, h19⟩ := He.ba h18
  obtain ⟨a19, h20⟩ := He.ba h19
  obtain ⟨a20, h21⟩ := He.ba h20
  obtain ⟨a21, h22⟩ := He.ba h21
  obtain ⟨a22, h23⟩ := He.ba h22
  obtain ⟨a23, h24⟩ := He.ba h23
  obtain ⟨a24, h25⟩ := He.ba h24
  obtain ⟨a25, h26⟩ := He.ba h25
  obtain ⟨a26, h27⟩ := He.ba h26
  obtain ⟨a27, h28⟩ := He.ba h27
  obtain ⟨a28, h29⟩ := He.ba h28
  obtain ⟨a29, h30⟩ := He.ba h29
  obtain ⟨a30, h31⟩ := He.ba h30
  obtain ⟨a31, h32⟩ := He.ba h31
  obtain ⟨a32, h33⟩ := He.ba h32
  obtain ⟨a33, h34⟩ := He.ba h33
  obtain ⟨a34, h35⟩ := He.ba h34
  obtain ⟨a35, h36⟩ := He.ba h35
  obtain ⟨a36, h37⟩ := He.ba h36
  obtain ⟨a37, h38⟩ := He.ba h37
  obtain ⟨a38, h39⟩ := He.ba h38
  obtain ⟨a39, h40⟩ := He.ba h39
  obtain ⟨a40, h41⟩ := He.ba h40
  obtain ⟨a41, h42⟩ := He.ba h41
  obtain ⟨a42, h43⟩ := He.ba h42
  obtain ⟨a43, h44⟩ := He.ba h43
  obtain ⟨a44, h45⟩ := He.ba h44
  obtain ⟨a45, h46⟩ := He.ba h45
  obtain ⟨a46, h47⟩ := He.ba h46
  obtain ⟨a47, h48⟩ := He.ba h47
  obtain ⟨a48, h49⟩ := He.ba h48
  obtain ⟨a49, h50⟩ := He.ba h49
  obtain ⟨a50, h51⟩ := He.ba h50
  obtain ⟨a51, h52⟩ := He.ba h51
  obtain ⟨a52, h53⟩ := He.ba h52
  obtain ⟨a53, h54⟩ := He.ba h53
  obtain ⟨a54, h55⟩ := He.ba h54
  obtain ⟨a55, h56⟩ := He.ba h55
  obtain ⟨a56, h57⟩ := He.ba h56
  obtain ⟨a57, h58⟩ := He.ba h57
  obtain ⟨a58, h59⟩ := He.ba h58
  obtain ⟨a59, h60⟩ := He.ba h59
  obtain ⟨a60, h61⟩ := He.ba h60
  obtain ⟨a61, h62⟩ := He.ba h61
  obtain ⟨a62, h63⟩ := He.ba h62
  obtain ⟨a63, h64⟩ := He.ba h63
  obtain ⟨a64, h65⟩ := He.ba h64
  obtain ⟨a65, h66⟩ := He.ba h65
  obtain ⟨a66, h67⟩ := He.ba h66
  obtain ⟨a67, h68⟩ := He.ba h67
  obtain ⟨a68, h69⟩ := He.ba h68
  obtain ⟨a69, h70⟩ := He.ba h69
  obtain ⟨a70, h71⟩ := He.ba h70
  obtain ⟨a71, h72⟩ := He.ba h71
  obtain ⟨a72, h73⟩ := He.ba h72
  obtain ⟨a73, h74⟩ := He.ba h73
  obtain ⟨a74, h75⟩ := He.ba h74
  obtain ⟨a75, h76⟩ := He.ba h75
  obtain ⟨a76, h77⟩ := He.ba h76
  obtain ⟨a77, h78⟩ := He.ba h77
  obtain ⟨a78, h79⟩ := He.ba h78
  obtain ⟨a79, h80⟩ := He.ba h79
  obtain ⟨a80, h81⟩ := He.ba h80
  obtain ⟨a81, h82⟩ := He.ba h81
  obtain ⟨a82, h83⟩ := He.ba h82
  obtain ⟨a83, h84⟩ := He.ba h83
  obtain ⟨a84, h85⟩ := He.ba h84
  obtain ⟨a85, h86⟩ := He.ba h85
  obtain ⟨a86, h87⟩ := He.ba h86
  obtain ⟨a87, h88⟩ := He.ba h87
  obtain ⟨a88, h89⟩ := He.ba h88
  obtain ⟨a89, h90⟩ := He.ba h89
  obtain ⟨a90, h91⟩ := He.ba h90
  obtain ⟨a91, h92⟩ := He.ba h91
  obtain ⟨a92, h93⟩ := He.ba h92
  obtain ⟨a93, h94⟩ := He.ba h93
  obtain ⟨a94, h95⟩ := He.ba h94
  obtain ⟨a95, h96⟩ := He.ba h95
  obtain ⟨a96, h97⟩ := He.ba h96
  obtain ⟨a97, h98⟩ := He.ba h97
  obtain ⟨a98, h99⟩ := He.ba h98
  obtain ⟨a99, h100⟩ := He.ba h99
  obtain ⟨a100, h101⟩ := He.ba h100
  obtain ⟨a101, h102⟩ := He.ba h101
  obtain ⟨a102, h103⟩ := He.ba h102
  obtain ⟨a103, h104⟩ := He.ba h103
  obtain ⟨a104, h105⟩ := He.ba h104
  obtain ⟨a105, h106⟩ := He.ba h105
  obtain ⟨a106, h107⟩ := He.ba h106
  obtain ⟨a107, h108⟩ := He.ba h107
  obtain ⟨a108, h109⟩ := He.ba h108
  obtain ⟨a109, h110⟩ := He.ba h109
  obtain ⟨a110, h111⟩ := He.ba h110
  obtain ⟨a111, h112⟩ := He.ba h111
  obtain ⟨a112, h113⟩ := He.ba h112
  obtain ⟨a113, h114⟩ := He.ba h113
  obtain ⟨a114, h115⟩ := He.ba h114
  obtain ⟨a115, h116⟩ := He.ba h115
  obtain ⟨a116, h117⟩ := He.ba h116
  obtain ⟨a117, h118⟩ := He.ba h117
  obtain ⟨a118, h119⟩ := He.ba h118
  obtain ⟨a119, h120⟩ := He.ba h119
  obtain ⟨a120, h121⟩ := He.ba h120
  obtain ⟨a121, h122⟩ := He.ba h121
  obtain ⟨a122, h123⟩ := He.ba h122
  obtain ⟨a123, h124⟩ := He.ba h123
  obtain ⟨a124, h125⟩ := He.ba h124
  obtain ⟨a125, h126⟩ := He.ba h125
  obtain ⟨a126, h127⟩ := He.ba h126
  obtain ⟨a127, h128⟩ := He.ba h127
  obtain ⟨a128, h129⟩ := He.ba h128
  have a129 := h129
  exact ⟨He.free_ok X G a0, He.free_ok X G a1, He.free_ok X G a2, He.free_ok X G a3, He.free_ok X G a4, He.free_ok X G a5, He.free_ok X G a6, He.free_ok X G a7, He.free_ok X G a8, He.free_ok X G a9, He.free_ok X G a10, He.free_ok X G a11, He.free_ok X G a12, He.free_ok X G a13, He.free_ok X G a14, He.free_ok X G a15, He.free_ok X G a16, He.free_ok X G a17, gloB_ok X G a18, gloB_ok X G a19, gloB_ok X G a20, gloB_ok X G a21, gloB_ok X G a22, gloB_ok X G a23, gloB_ok X G a24, gloB_ok X G a25, gloB_ok X G a26, gloB_ok X G a27, gloB_ok X G a28, tupB_ok X G a29, He.glo_ok X G a30, He.glo_ok X G a31, He.glo_ok X G a32, He.glo_ok X G a33, He.glo_ok X G a34, He.glo_ok X G a35, He.glo_ok X G a36, He.glo_ok X G a37, He.glo_ok X G a38, He.glo_ok X G a39, He.glo_ok X G a40, He.glo_ok X G a41, He.glo_ok X G a42, He.glo_ok X G a43, He.glo_ok X G a44, He.glo_ok X G a45, He.glo_ok X G a46, He.glo_ok X G a47, He.glo_ok X G a48, He.glo_ok X G a49, He.glo_ok X G a50, He.glo_ok X G a51, He.glo_ok X G a52, He.glo_ok X G a53, He.glo_ok X G a54, He.glo_ok X G a55, He.glo_ok X G a56, He.glo_ok X G a57, He.glo_ok X G a58, He.glo_ok X G a59, He.glo_ok X G a60, He.glo_ok X G a61, He.glo_ok X G a62, He.glo_ok X G a63, He.glo_ok X G a64, He.glo_ok X G a65, He.glo_ok X G a66, He.glo_ok X G a67, He.glo_ok X G a68, He.glo_ok X G a69, He.glo_ok X G a70, He.glo_ok X G a71, He.glo_ok X G a72, He.glo_ok X G a73, He.glo_ok X G a74, He.glo_ok X G a75, He.glo_ok X G a76, He.glo_ok X G a77, He.glo_ok X G a78, He.glo_ok X G a79, He.glo_ok X G a80, He.glo_ok X G a81, He.glo_ok X G a82, He.glo_ok X G a83, He.glo_ok X G a84, He.glo_ok X G a85, He.glo_ok X G a86, He.glo_ok X G a87, He.glo_ok X G a88, He.glo_ok X G a89, He.glo_ok X G a90, He.glo_ok X G a91, He.cls_ok a92, He.cls_ok a93, He.cls_ok a94, He.noat_ok a95, He.noat_ok a96, He.noat_ok a97, He.noat_ok a98, He.noat_ok a99, He.noat_ok a100, exkB_ok a101, exkB_ok a102, exkB_ok a103, exkB_ok a104, exkB_ok a105, exkB_ok a106, exkB_ok a107, exkB_ok a108, exkB_ok a109, exiB_ok a110, exiB_ok a111, exiB_ok a112, exiB_ok a113, exnB_ok a114, exnB_ok a115, exnB_ok a116, exnB_ok a117, exnB_ok a118, exnB_ok a119, exnB_ok a120, exnB_ok a121, exnB_ok a122, ktB_ok a123, sbB_ok a124, He.meth_ok a125, He.mkr_ok a126, He.mkr_ok a127, He.mkr_ok a128, isiB_ok a129, c.def_ 0, c.def_ 1, c.def_ 2, c.def_ 3, c.def_ 4, c.def_ 5, c.def_ 6, c.def_ 7, c.def_ 8, c.def_ 9, c.def_ 10, c.def_ 11, c.def_ 12, c.def_ 13, c.def_ 14, c.def_ 15, c.def_ 16, c.def_ 17, c.def_ 18, c.def_ 19, c.def_ 20, c.def_ 21, c.def_ 22, c.def_ 23, c.def_ 24, c.def_ 25, c.def_ 26, c.def_ 27, c.def_ 28, c.def_ 29, c.def_ 30, c.def_ 31, c.def_ 32, c.def_ 33, c.def_ 34, c.def_ 35, c.def_ 36, c.def_ 37, c.def_ 38, c.def_ 39, c.def_ 40, c.def_ 41, c.def_ 42, c.def_ 43, c.def_ 44, c.def_ 45, c.def_ 46, c.def_ 47, c.def_ 48, c.def_ 49, c.def_ 50, c.def_ 51, c.def_ 52, c.def_ 53, c.def_ 54, TBs ("_law_right", "_law_right.<locals>.<lambda>") (by simp [lams]), TBs ("_law_listed", "_law_listed.<locals>.<lambda>") (by simp [lams])⟩
abbrev R : PySem.W.OpenRow := PySem.W.OpenLaw.row PySem.Challenge.rw_closedinner_k37_least_and_lists_refused

theorem g_law_of {w : World} {K : PySem.W.Frag} {h : Heap} {mg : Str → Option Value} (X : K.In h) (G : h.Ns mainGlobals mg) (cL : SaysML ck fns tabs lams w h K) : mg "law" = some (.ref (He.ga K "law")) := by
  have h0 := cL.t.m.chk
  obtain ⟨a0, h1⟩ := He.ba h0
  obtain ⟨a1, h2⟩ := He.ba h1
  obtain ⟨a2, h3⟩ := He.ba h2
  obtain ⟨a3, h4⟩ := He.ba h3
  obtain ⟨a4, h5⟩ := He.ba h4
  obtain ⟨a5, h6⟩ := He.ba h5
  obtain ⟨a6, h7⟩ := He.ba h6
  obtain ⟨a7, h8⟩ := He.ba h7
  obtain ⟨a8, h9⟩ := He.ba h8
  obtain ⟨a9, h10⟩ := He.ba h9
  obtain ⟨a10, h11⟩ := He.ba h10
  obtain ⟨a11, h12⟩ := He.ba h11
  obtain ⟨a12, h13⟩ := He.ba h12
  obtain ⟨a13, h14⟩ := He.ba h13
  obtain ⟨a14, h15⟩ := He.ba h14
  obtain ⟨a15, h16⟩ := He.ba h15
  obtain ⟨a16, h17⟩ := He.ba h16
  obtain ⟨a17, h18⟩ := He.ba h17
  obtain ⟨a18, h19⟩ := He.ba h18
  obtain ⟨a19, h20⟩ := He.ba h19
  obtain ⟨a20, h21⟩ := He.ba h20
  obtain ⟨a21, h22⟩ := He.ba h21
  obtain ⟨a22, h23⟩ := He.ba h22
  obtain ⟨a23, h24⟩ := He.ba h23
  obtain ⟨a24, h25⟩ := He.ba h24
  obtain ⟨a25, h26⟩ := He.ba h25
  obtain ⟨a26, h27⟩ := He.ba h26
  obtain ⟨a27, h28⟩ := He.ba h27
  obtain ⟨a28, h29⟩ := He.ba h28
  obtain ⟨a29, h30⟩ := He.ba h29
  obtain ⟨a30, h31⟩ := He.ba h30
  obtain ⟨a31, h32⟩ := He.ba h31
  obtain ⟨a32, h33⟩ := He.ba h32
  obtain ⟨a33, h34⟩ := He.ba h33
  obtain ⟨a34, h35⟩ := He.ba h34
  obtain ⟨a35, h36⟩ := He.ba h35
  obtain ⟨a36, h37⟩ := He.ba h36
  obtain ⟨a37, h38⟩ := He.ba h37
  obtain ⟨a38, h39⟩ := He.ba h38
  obtain ⟨a39, h40⟩ := He.ba h39
  obtain ⟨a40, h41⟩ := He.ba h40
  obtain ⟨a41, h42⟩ := He.ba h41
  obtain ⟨a42, h43⟩ := He.ba h42
  obtain ⟨a43, h44⟩ := He.ba h43
  obtain ⟨a44, h45⟩ := He.ba h44
  obtain ⟨a45, h46⟩ := He.ba h45
  obtain ⟨a46, h47⟩ := He.ba h46
  obtain ⟨a47, h48⟩ := He.ba h47
  obtain ⟨a48, h49⟩ := He.ba h48
  obtain ⟨a49, h50⟩ := He.ba h49
  obtain ⟨a50, h51⟩ := He.ba h50
  obtain ⟨a51, h52⟩ := He.ba h51
  obtain ⟨a52, h53⟩ := He.ba h52
  obtain ⟨a53, h54⟩ := He.ba h53
  obtain ⟨a54, h55⟩ := He.ba h54
  obtain ⟨a55, h56⟩ := He.ba h55
  obtain ⟨a56, h57⟩ := He.ba h56
  obtain ⟨a57, h58⟩ := He.ba h57
  obtain ⟨a58, h59⟩ := He.ba h58
  obtain ⟨a59, h60⟩ := He.ba h59
  obtain ⟨a60, h61⟩ := He.ba h60
  obtain ⟨a61, h62⟩ := He.ba h61
  obtain ⟨a62, h63⟩ := He.ba h62
  obtain ⟨a63, h64⟩ := He.ba h63
  obtain ⟨a64, h65⟩ := He.ba h64
  obtain ⟨a65, h66⟩ := He.ba h65
  obtain ⟨a66, h67⟩ := He.ba h66
  obtain ⟨a67, h68⟩ := He.ba h67
  obtain ⟨a68, h69⟩ := He.ba h68
  obtain ⟨a69, h70⟩ := He.ba h69
  obtain ⟨a70, h71⟩ := He.ba h70
  obtain ⟨a71, h72⟩ := He.ba h71
  obtain ⟨a72, h73⟩ := He.ba h72
  obtain ⟨a73, h74⟩ := He.ba h73
  obtain ⟨a74, h75⟩ := He.ba h74
  obtain ⟨a75, h76⟩ := He.ba h75
  obtain ⟨a76, h77⟩ := He.ba h76
  obtain ⟨a77, h78⟩ := He.ba h77
  obtain ⟨a78, h79⟩ := He.ba h78
  obtain ⟨a79, h80⟩ := He.ba h79
  obtain ⟨a80, h81⟩ := He.ba h80
  obtain ⟨a81, h82⟩ := He.ba h81
  obtain ⟨a82, h83⟩ := He.ba h82
  exact He.glo_ok X G a82
theorem d_law_of {w : World} {K : PySem.W.Frag} {h : Heap} (cL : SaysML ck fns tabs lams w h K) : ∃ fd, FunD K "law" "law" (defArgs s_law) (defBody s_law) (defScope s_law) [] [] (He.ga K "law") fd := cL.t.m.def_ 50
abbrev hk : PySem.W.Hook := hookML 6 ck fns tabs lams
def ob (s : PySem.W.SharedT) : AlML := obsMLG 6 ck fns tabs lams (HandSHeadRun.getT s)
theorem ob_eq (s : PySem.W.SharedT) : ob s = hk.obs s.abs := obsMLG_eq (HandSHeadRun.getT_eq s)
end Law

section
namespace Law
open PySem PySem.Spec PyProof.Rows L2 Mir
def loose : List PySem.Str := (("_wall" : PySem.Str) :: ("WrongValue" : PySem.Str) :: ("InvalidText" : PySem.Str) :: ("InvalidKind" : PySem.Str) :: ("InvalidSet" : PySem.Str) :: ("InvalidWord" : PySem.Str) :: ("InvalidNumber" : PySem.Str) :: ("NotATerm" : PySem.Str) :: ("NotASpace" : PySem.Str) :: ("InvalidPremises" : PySem.Str) :: ("WrongName" : PySem.Str) :: ("UnknownName" : PySem.Str) :: ("NoAnswer" : PySem.Str) :: ("TooMany" : PySem.Str) :: ("TooLong" : PySem.Str) :: ("MOST_POINTS" : PySem.Str) :: ("MOST_SIGNS" : PySem.Str) :: ("MOST_LISTED" : PySem.Str) :: ("SETS" : PySem.Str) :: ("PLAIN" : PySem.Str) :: ("DEEDS" : PySem.Str) :: ("Rows" : PySem.Str) :: ("read_into" : PySem.Str) :: ("is_text" : PySem.Str) :: ("Term" : PySem.Str) :: ("made" : PySem.Str) :: ("check_term" : PySem.Str) :: ("DIGITS" : PySem.Str) :: ("LETTERS" : PySem.Str) :: ("LONGEST" : PySem.Str) :: ("is_integer" : PySem.Str) :: ("is_between" : PySem.Str) :: ("is_name" : PySem.Str) :: ("KINDS" : PySem.Str) :: ("read_row" : PySem.Str) :: ("is_ordered" : PySem.Str) :: ("bits_of" : PySem.Str) :: ("read_space" : PySem.Str) :: ("is_seeing" : PySem.Str) :: ("indexes_of" : PySem.Str) :: ("closure_of" : PySem.Str) :: ("inside_of" : PySem.Str) :: ("all_bits" : PySem.Str) :: ("text_of" : PySem.Str) :: ("Space" : PySem.Str) :: ("names_of" : PySem.Str) :: ("check_point" : PySem.Str) :: ("is_set" : PySem.Str) :: ("check_set" : PySem.Str) :: ("check_kind" : PySem.Str) :: ("bits_at" : PySem.Str) :: ("bits_of_row" : PySem.Str) :: ("is_pinned" : PySem.Str) :: ("is_meeting" : PySem.Str) :: ("is_parted" : PySem.Str) :: ("is_kind" : PySem.Str) :: ("check_listed" : PySem.Str) :: ("all_near" : PySem.Str) :: ("all_lots" : PySem.Str) :: ("is_parted_by" : PySem.Str) :: ("least_points" : PySem.Str) :: ("NAMES" : PySem.Str) :: ("listed_texts" : PySem.Str) :: ("orders_of" : PySem.Str) :: ("renamed" : PySem.Str) :: ("check_both" : PySem.Str) :: ("all_spaces" : PySem.Str) :: ("count_spaces" : PySem.Str) :: ("unlike_spaces" : PySem.Str) :: ("count_terms" : PySem.Str) :: ("_law_cell" : PySem.Str) :: ("_law_jar" : PySem.Str) :: ("_law_dig" : PySem.Str) :: ("_law_take" : PySem.Str) :: ("_law_kinds" : PySem.Str) :: ("_law_term" : PySem.Str) :: ("_law_sort" : PySem.Str) :: ("_law_caught" : PySem.Str) :: ("_law_listed" : PySem.Str) :: ("_law_right" : PySem.Str) :: [])
theorem tri {α β γ δ : Type} {o : Option α} {f : α → β} {g : α → γ} {h : α → δ} {x : β} {y : γ} {z : δ} (a : o.map f = some x) (b : o.map g = some y) (c : o.map h = some z) : o.map (fun s => (f s, g s, h s)) = some (x, y, z) := by
  cases o with
  | none => cases a
  | some s =>
    cases a
    cases b
    cases c
    rfl
section
open HandSHeadRun PySem.W PySem.Calls
theorem run_a (w : World) (os : OsState) : (HandSHeadRun.endF (stepQ (denQ tabQ) R.prog w) 7000 R.prog w os).map (fun s => looksF R.prog (boot_heap w.params) s.abs) = some true := by kernel_rfl
theorem run_b (w : World) (os : OsState) : (HandSHeadRun.endF (stepQ (denQ tabQ) R.prog w) 7000 R.prog w os).map (fun s => seenQ (view R.prog [88]) loose (importedModules R.prog.main.body) (fun s => xlAt (view R.prog [88]) [] s && recOk R.toRowW.records s) s.abs) = some (openGood (view R.prog [88]) loose) := by kernel_rfl
theorem run_c (w : World) (os : OsState) : (HandSHeadRun.endF (stepQ (denQ tabQ) R.prog w) 7000 R.prog w os).map (fun s => ob s) = some (hk.val w) := by kernel_rfl
end
theorem run (w : World) : HandSHeadRun.RunEq R (PySem.W.view R.prog [88]) hk ob 7000 loose w := fun os => tri (run_a w os) (run_b w os) (run_c w os)
end Law
open PySem PySem.W PySem.Calls PyProof.Rows
theorem law_of (hm : ∀ ns : List Int, ns.length ≤ 63 → ∃ S', Law.m_law [.p (.scr (ns.map Mir.P.int))] (Mir.tabS Law.lams) = .ok (.p (.bl true)) S') : PySem.Challenge.rw_closedinner_k37_least_and_lists_refused.Holds := by
  w_on; o_law
  refine HandSHeadRun.head_any (r := OpenLaw.row PySem.Challenge.rw_closedinner_k37_least_and_lists_refused) (q := view (OpenLaw.row PySem.Challenge.rw_closedinner_k37_least_and_lists_refused).prog [88]) (H := Law.hk) (ob := Law.ob) (M := 7000) (loose := Law.loose) (d := HandSHeadRun.topDef (OpenLaw.row PySem.Challenge.rw_closedinner_k37_least_and_lists_refused).prog 88) (kwd := []) Law.ob_eq
    (by kernel_rfl) (fun s => by kernel_rfl) Law.run (by kernel_rfl) (by kernel_rfl) (by kernel_rfl) (by rfl) (by first | assumption | decide +kernel) (by decide +kernel) ⟨rfl, rfl, rfl, rfl, rfl, by decide +kernel⟩ ?hw ?hc
  case hw => w_witness2
  case hc =>
    refine Mir.walkGT (l := PySem.Challenge.rw_closedinner_k37_least_and_lists_refused) (n := 63) (k := 12) (x := "_law_cells") (m := Law.m_law) (ts := Law.lams) rfl (by decide) (by kernel_rfl) ⟨⟨rfl, by decide, by decide⟩, rfl⟩ ?F hm
    intro w mg fa h Y G hmg0
    obtain ⟨K, KX, c⟩ := Y
    have g0 : mg ("law" : PySem.Str) = some (.ref (He.ga K "law")) := Law.g_law_of KX G c
    have hmg : mg ("law" : PySem.Str) = some (.ref fa) := by
      have e : (HandSHeadRun.topDef (OpenLaw.row PySem.Challenge.rw_closedinner_k37_least_and_lists_refused).prog 88).name = ("law" : PySem.Str) := by kernel_rfl
      rw [← e]
      exact hmg0
    have e := hmg.symm.trans g0
    cases e
    obtain ⟨fd, F⟩ := Law.d_law_of c
    have b := L2.FunD.bindsA (ps := ["_law_cells"]) F fun _ _ _ _ _ _ us hl => match us, hl with | [_], _ => rfl
    refine ⟨K, fd, KX, ⟨c.nd, c.hd, c.out, c.emp⟩, fun s v => b s [v] rfl, fun base _ _ TB => ?_⟩
    have T := Law.tp_of KX G c TB
    obtain ⟨fd', F', _, _, hp⟩ := (Law.g_law (P := (PySem.Challenge.rw_closedinner_k37_least_and_lists_refused).prog) (w := w) (base := base) T).fn
    have e2 := (Mir.FunD.at_ F).symm.trans hp
    cases e2
    exact F'
end

namespace Pl
def row (rows : List (List Nat)) (k : Nat) : List Nat := rows.getD k []
theorem row_set_self {rows : List (List Nat)} {k : Nat} {l : List Nat} (h : k < rows.length) : row (rows.set k l) k = l := by
  unfold row
  rw [List.getD_eq_getElem?_getD, List.getElem?_set_self h]
  rfl
theorem row_set_ne {rows : List (List Nat)} {k j : Nat} {l : List Nat} (h : k ≠ j) : row (rows.set k l) j = row rows j := by
  unfold row
  rw [List.getD_eq_getElem?_getD, List.getElem?_set_ne h, List.getD_eq_getElem?_getD]
def Sub (n : Nat) (a b : List (List Nat)) : Prop := ∀ i, i < n → ∀ e ∈ row a i, e ∈ row b i
theorem Sub.refl {n : Nat} {a : List (List Nat)} : Sub n a a := fun _ _ _ h => h
theorem Sub.trans {n : Nat} {a b c : List (List Nat)} (h : Sub n a b) (h' : Sub n b c) : Sub n a c := fun i hi e he => h' i hi e (h i hi e he)
section
variable {n : Nat} {rows : List (List Nat)} {T : Nat → Nat → Prop}
end
def B (r : Nat → Nat → Bool) (n : Nat) : Nat → Nat → Nat → Bool
  | 0, i, m => i == m
  | t + 1, i, m => (List.range n).any fun a => B r n t i a && r a m
section
variable {r : Nat → Nat → Bool} {n : Nat}
end
end Pl
namespace Pl
theorem nodup_len : ∀ (n : Nat) (l : List Nat), l.Nodup → (∀ e ∈ l, e < n) → l.length ≤ n
  | 0, l, _, h => by
    cases l with
    | nil => exact Nat.le_refl _
    | cons a l => exact absurd (h a List.mem_cons_self) (by omega)
  | n + 1, l, nd, h => by
    by_cases q : n ∈ l
    · have ih := nodup_len n (l.erase n) (nd.erase n) fun e he => by
        have := (nd.mem_erase_iff).mp he
        have h2 := h e this.2
        have h3 := this.1
        omega
      rw [List.length_erase_of_mem q] at ih
      have : 0 < l.length := List.length_pos_of_mem q
      omega
    · have ih := nodup_len n l nd fun e he => by
        have h2 := h e he
        have : e ≠ n := fun z => q (by rw [← z]; exact he)
        omega
      omega
end Pl

namespace Mir
open L2
@[simp] theorem bind_ok {A B : Type} (a : A) (S : Sto) (f : A → Sto → Res B) : (Res.ok a S).bind f = f a S := rfl
@[simp] theorem bind_bad {A B : Type} (f : A → Sto → Res B) : (Res.bad : Res A).bind f = .bad := rfl
@[simp] theorem go_ok {A : Type} (a : A) (S : Sto) (ρ : En) (f : A → Sto → RF) : (Res.ok a S).go ρ f = f a S := rfl
@[simp] theorem nox_ok {A : Type} (a : A) (S : Sto) : (Res.ok a S).nox = .ok a S := rfl
@[simp] theorem thn_nx (ρ : En) (S : Sto) (b : MS) : (RF.ok (.nx ρ) S).thn b = b ρ S := rfl
@[simp] theorem thn_rt (d : Vl) (S : Sto) (b : MS) : (RF.ok (.rt d) S).thn b = .ok (.rt d) S := rfl
@[simp] theorem rd_p (S : Sto) (x : P) : rd S (.p x) = some x := rfl
@[simp] theorem nv_p (S : Sto) (x : P) : nv S (.p x) = .p x := rfl
theorem rd_lst {S : Sto} {k : Nat} {xs : List P} (h : S[k]? = some (.lst xs)) : rd S (.c k) = some (.lst xs) := by
  unfold rd
  dsimp only
  rw [h]
theorem nv_lst {S : Sto} {k : Nat} {xs : List P} (h : S[k]? = some (.lst xs)) : nv S (.c k) = .c k := by
  unfold nv
  dsimp only
  rw [h]
theorem nv_lsv {S : Sto} {k : Nat} {xs : List Vl} (h : S[k]? = some (.lsv xs)) : nv S (.c k) = .c k := by
  unfold nv
  dsimp only
  rw [h]
theorem rd_fz {S : Sto} {k : Nat} {x : P} (h : S[k]? = some (.fz x)) : rd S (.c k) = some x := by
  unfold rd
  dsimp only
  rw [h]
theorem nv_fz {S : Sto} {k : Nat} {x : P} (h : S[k]? = some (.fz x)) : nv S (.c k) = .p x := by
  unfold nv
  dsimp only
  rw [h]
theorem isL_lst {S : Sto} {k : Nat} {xs : List P} (h : S[k]? = some (.lst xs)) : isL S (.c k) = true := by
  unfold isL
  dsimp only
  rw [h]
def ofO (o : Option P) (S : Sto) : Res Vl := match o with
  | some z => .ok (.p z) S
  | none => .bad
@[simp] theorem ofO_some (z : P) (S : Sto) : ofO (some z) S = .ok (.p z) S := rfl
@[simp] theorem op1_p (f : P → Option P) (x : P) (S : Sto) : op1 f (.p x) S = ofO (f x) S := rfl
@[simp] theorem op2_pp (f : P → P → Option P) (x y : P) (S : Sto) : op2 f (.p x) (.p y) S = ofO (f x y) S := rfl
theorem op2_rd {f : P → P → Option P} {d e : Vl} {x y : P} {S : Sto} (h1 : rd S d = some x) (h2 : rd S e = some y) : op2 f d e S = ofO (f x y) S := by
  unfold op2
  rw [h1, h2]
  rfl
theorem op1_rd {f : P → Option P} {d : Vl} {x : P} {S : Sto} (h1 : rd S d = some x) : op1 f d S = ofO (f x) S := by
  unfold op1
  rw [h1]
  rfl
@[simp] theorem rds_nil (S : Sto) : rds S [] = some [] := rfl
@[simp] theorem rds_p (S : Sto) (x : P) (ds : List Vl) : rds S (.p x :: ds) = (rds S ds).bind fun xs => some (x :: xs) := rfl
theorem rds_rd {S : Sto} {d : Vl} {x : P} {ds : List Vl} (h : rd S d = some x) : rds S (d :: ds) = (rds S ds).bind fun xs => some (x :: xs) := by
  show ((rd S d).bind fun x => (rds S ds).bind fun xs => some (x :: xs)) = _
  rw [h]
  rfl
@[simp] theorem call1_eq (f : List P → Option P) (ds : List Vl) (S : Sto) : call1 f ds S = (match rds S ds with
  | some xs => ofO (f xs) S
  | none => .bad) := rfl
section
variable (ρ : En) (S : Sto) (a b c : ME) (t u : MT) (m r : MA) (s s' : MS)
@[simp] theorem eVar_0 (d : Vl) : eVar 0 (some d :: ρ) S = .ok d S := rfl
@[simp] theorem eVar_s (i : Nat) (x : Option Vl) : eVar (i + 1) (x :: ρ) S = eVar i ρ S := by
  unfold eVar
  rw [List.getElem?_cons_succ]
@[simp] theorem eC_eq (x : P) : eC x ρ S = .ok (.p x) S := rfl
@[simp] theorem eBin_eq (f : P → P → Option P) : eBin f a b ρ S = (a ρ S).bind fun x S1 => (b ρ S1).bind fun y S2 => op2 f x y S2 := rfl
@[simp] theorem eUn_eq (f : P → Option P) : eUn f a ρ S = (a ρ S).bind fun x S1 => op1 f x S1 := rfl
@[simp] theorem eItem_eq : eItem a b ρ S = (a ρ S).bind fun d S1 => (b ρ S1).bind fun i S2 => ixV (nv S2 d) i S2 := rfl
@[simp] theorem eCall_eq (f : List P → Option P) : eCall f m ρ S = (m ρ S).bind fun ds S1 => call1 f ds S1 := rfl
@[simp] theorem eFn_eq (f : MF) : eFn f m ρ S = (m ρ S).bind f := rfl
@[simp] theorem aNil_eq : aNil ρ S = .ok [] S := rfl
@[simp] theorem aCons_eq : aCons a m ρ S = (a ρ S).bind fun x S1 => (m ρ S1).bind fun xs S2 => .ok (x :: xs) S2 := rfl
@[simp] theorem tst_bl (b : Bool) : tst (.p (.bl b)) S = .ok b S := rfl
@[simp] theorem tVal_eq : tVal a ρ S = (a ρ S).bind tst := rfl
@[simp] theorem tAnd_eq : tAndM t u ρ S = (t ρ S).bind fun x S1 => match x with
  | true => u ρ S1
  | false => .ok false S1 := rfl
@[simp] theorem tOr_eq : tOrM t u ρ S = (t ρ S).bind fun x S1 => match x with
  | true => .ok true S1
  | false => u ρ S1 := rfl
@[simp] theorem tNot_eq : tNotM t ρ S = (t ρ S).bind fun x S1 => .ok (!x) S1 := rfl
@[simp] theorem eAnd_eq : eAndM a b ρ S = (a ρ S).bind fun x S1 => (tst x S1).bind fun c S2 => match c with
  | true => b ρ S2
  | false => .ok (.p (.bl false)) S2 := rfl
@[simp] theorem eOr_eq : eOrM a b ρ S = (a ρ S).bind fun x S1 => (tst x S1).bind fun c S2 => match c with
  | true => .ok (.p (.bl true)) S2
  | false => b ρ S2 := rfl
@[simp] theorem eNot_eq : eNotM a ρ S = (a ρ S).bind fun x S1 => (tst x S1).bind fun c S2 => .ok (.p (.bl (!c))) S2 := rfl
@[simp] theorem eIf_eq : eIfM t a b ρ S = (t ρ S).bind fun x S1 => match x with
  | true => a ρ S1
  | false => b ρ S1 := rfl
@[simp] theorem eIsN_eq : eIsN a ρ S = (a ρ S).bind fun x S1 => .ok (.p (.bl (isN x))) S1 := rfl
@[simp] theorem eNotN_eq : eNotN a ρ S = (a ρ S).bind fun x S1 => .ok (.p (.bl (!isN x))) S1 := rfl
@[simp] theorem eTup_eq : eTup m ρ S = (m ρ S).bind fun xs S1 => (frzs xs S1).bind fun ys S2 => if ys.length ≤ 100000 then .ok (.p (.tup ys)) S2 else .bad := rfl
@[simp] theorem eLst_eq : eLst m ρ S = (m ρ S).bind fun xs S1 => (frzs xs S1).bind fun ys S2 => if ys.length ≤ 100000 then .ok (.p (.lst ys)) S2 else .bad := rfl
@[simp] theorem eLstC_eq : eLstC m ρ S = (m ρ S).bind fun xs S1 => (frzs xs S1).bind fun ys S2 => if ys.length ≤ 100000 then .ok (.c S2.length) (S2 ++ [.lst ys]) else .bad := rfl
@[simp] theorem frzs_nil : frzs [] S = .ok [] S := rfl
@[simp] theorem frzs_cons (d : Vl) (ds : List Vl) : frzs (d :: ds) S = (frz d S).bind fun y S1 => (frzs ds S1).bind fun ys S2 => .ok (y :: ys) S2 := rfl
@[simp] theorem eMthT_p (T : String) (f : P → List P → Option P) : eMthT T f a m ρ S = (a ρ S).bind fun d S1 => match rd S1 d with
  | some x => if tyP T x then (m ρ S1).bind fun ds S2 => call1 (fun xs => match xs with
    | x :: r => f x r
    | [] => none) (d :: ds) S2 else .bad
  | none => .bad := rfl
@[simp] theorem eMut_eq (g : Sto → Vl → Bool) (f : FM) : eMut g f a m ρ S = (a ρ S).bind fun d S1 => if g S1 d then (m ρ S1).bind fun ds S2 => f d ds S2 else .bad := rfl
@[simp] theorem sSeq_eq : sSeq s s' ρ S = (s ρ S).thn s' := rfl
@[simp] theorem sPass_eq : sPass ρ S = .ok (.nx ρ) S := rfl
@[simp] theorem sExpr_eq : sExpr a ρ S = (a ρ S).go ρ fun _ S1 => .ok (.nx ρ) S1 := rfl
@[simp] theorem sRet_eq : sRet a ρ S = (a ρ S).go ρ fun d S1 => .ok (.rt d) S1 := rfl
@[simp] theorem sIf_eq : sIf t s s' ρ S = (t ρ S).go ρ fun c S1 => match c with
  | true => s ρ S1
  | false => s' ρ S1 := rfl
@[simp] theorem sAsg_eq (g : MG) : sAsg a g ρ S = (a ρ S).go ρ fun d S1 => ((g d ρ S1).nox).go ρ fun ρ1 S2 => .ok (.nx ρ1) S2 := rfl
@[simp] theorem sPar_eq (i j : Nat) : sPar i j m ρ S = (m ρ S).go ρ fun ds S1 => match ds with
  | [d, d2] => .ok (.nx ((ρ.set i (some d)).set j (some d2))) S1
  | _ => .bad := rfl
@[simp] theorem sPar3_eq (i j l : Nat) : sPar3 i j l m ρ S = (m ρ S).go ρ fun ds S1 => match ds with
  | [d, d2, d3] => .ok (.nx (((ρ.set i (some d)).set j (some d2)).set l (some d3))) S1
  | _ => .bad := rfl
@[simp] theorem sParG_eq (n : Nat) (g : MGs) : sParG n m g ρ S = (m ρ S).go ρ fun ds S1 => if ds.length = n ∧ n ≤ 100000 then ((g ds ρ S1).nox).go ρ fun ρ1 S2 => .ok (.nx ρ1) S2 else .bad := rfl
@[simp] theorem gNm_eq (i : Nat) (d : Vl) : gNm i d ρ S = .ok (ρ.set i (some d)) S := rfl
@[simp] theorem gNl_eq : gNl [] ρ S = .ok ρ S := rfl
@[simp] theorem gCn_eq (g : MG) (r : MGs) (d : Vl) (ds : List Vl) : gCn g r (d :: ds) ρ S = (g d ρ S).nox.bind fun ρ1 S1 => r ds ρ1 S1 := rfl
@[simp] theorem gTp_eq (n : Nat) (r : MGs) (xs : List P) : gTp n r (.p (.tup xs)) ρ S = if xs.length = n then r (xs.map Vl.p) ρ S else .bad := rfl
@[simp] theorem gSub_eq (d : Vl) : gSubM a b d ρ S = (a ρ S).nox.bind fun o S1 => (b ρ S1).nox.bind fun i S2 => (setV o i d S2).bind fun _ S3 => .ok ρ S3 := rfl
@[simp] theorem gFld_eq (c f : PySem.Str) (d : Vl) : gFldM c f a d ρ S = (a ρ S).nox.bind fun o S1 => (fSet c f o d S1).bind fun _ S2 => .ok ρ S2 := rfl
@[simp] theorem sFor_eq (it : MI) (g : MG) : sFor it g s ρ S = (it ρ S).go ρ fun xs S1 => forGo g s xs ρ S1 := rfl
@[simp] theorem itOf_eq : itOf a ρ S = (a ρ S).bind fun d S1 => (frz d S1).bind fun x S2 => match itemsP x with
  | some xs => .ok xs S2
  | none => .bad := rfl
@[simp] theorem eSl_eq (l h : En → Sto → Res (Option Int)) : eSl a l h ρ S = (a ρ S).bind fun d S1 => (l ρ S1).bind fun lo S2 => (h ρ S2).bind fun hi S3 => op1 (pSl lo hi) d S3 := rfl
@[simp] theorem oNo_eq : oNo ρ S = .ok none S := rfl
@[simp] theorem oYes_eq : oYes a ρ S = (a ρ S).bind intV := rfl
@[simp] theorem intV_int (i : Int) : intV (.p (.int i)) S = .ok (some i) S := rfl
@[simp] theorem eFld_eq (c f : PySem.Str) : eFld c f a ρ S = (a ρ S).bind fun d S1 => fldV c f (nv S1 d) S1 := rfl
@[simp] theorem eProp_eq (c : PySem.Str) (f : MF) : eProp c f a ρ S = (a ρ S).bind fun d S1 => if isC c S1 (nv S1 d) then (f [d] S1).nox else .bad := rfl
@[simp] theorem eMeth_eq (c f : PySem.Str) (g : MF) : eMeth c f g a m ρ S = (a ρ S).bind fun d S1 => if isO c f S1 (nv S1 d) then (m ρ S1).bind fun ds S2 => g (d :: ds) S2 else .bad := rfl
@[simp] theorem eMake_eq (kp : Bool) (c : PySem.Str) (g : MF) : eMake kp c g m ρ S = (m ρ S).bind fun ds S1 => mkO kp c g ds S1 := rfl
end
@[simp] theorem ixV_p (x : P) (i : Vl) (S : Sto) : ixV (.p x) i S = op2 pIx (.p x) i S := by
  cases i <;> rfl
theorem ixV_lst {S : Sto} {k : Nat} {xs : List P} {j : Int} (h : S[k]? = some (.lst xs)) : ixV (.c k) (.p (.int j)) S = ofO (atI xs j) S := by
  unfold ixV
  dsimp only
  rw [h]
  show op2 pIx (.c k) (.p (.int j)) S = _
  rw [op2_rd (rd_lst h) (rd_p _ _)]
  rfl
@[simp] theorem pIB_int (g : Int → Int → Bool) (i j : Int) : pIB g (.int i) (.int j) = some (.bl (g i j)) := rfl
@[simp] theorem pI_int (g : Int → Int → Int) (i j : Int) : pI g (.int i) (.int j) = some (.int (g i j)) := rfl
@[simp] theorem pIC_int (C : Int → Int → Bool) (g : Int → Int → Int) (i j : Int) : pIC C g (.int i) (.int j) = if C i j then some (.int (g i j)) else none := rfl
@[simp] theorem pAdd_int (i j : Int) : pAdd (.int i) (.int j) = some (.int (i + j)) := rfl
@[simp] theorem pAdd_str (x y : List Nat) : pAdd (.str x) (.str y) = if x.length + y.length ≤ 100000 then some (.str (x ++ y)) else none := rfl
@[simp] theorem pAdd_lst (x y : List P) : pAdd (.lst x) (.lst y) = if x.length + y.length ≤ 100000 then some (.lst (x ++ y)) else none := rfl
@[simp] theorem pAdd_tup (x y : List P) : pAdd (.tup x) (.tup y) = if x.length + y.length ≤ 100000 then some (.tup (x ++ y)) else none := rfl
@[simp] theorem pMul_int (i j : Int) : pMul (.int i) (.int j) = if bMul i j then some (.int (i * j)) else none := rfl
@[simp] theorem pInt_int (i : Int) : pInt [.int i] = some (.int i) := rfl
@[simp] theorem pAbs_int (i : Int) : pAbs [.int i] = some (.int (if i < 0 then -i else i)) := rfl
@[simp] theorem pDivmod_int (i j : Int) : pDivmod [.int i, .int j] = if bDiv i j then some (.tup [.int (i / j), .int (i % j)]) else none := rfl
@[simp] theorem pLen_lst (xs : List P) : pLen [.lst xs] = some (.int xs.length) := rfl
@[simp] theorem pLen_scr (xs : List P) : pLen [.scr xs] = some (.int xs.length) := rfl
@[simp] theorem pLen_tup (xs : List P) : pLen [.tup xs] = some (.int xs.length) := rfl
@[simp] theorem pLen_str (x : List Nat) : pLen [.str x] = if x.length ≤ 100000 then some (.int x.length) else none := rfl
@[simp] theorem pTuple_lst (xs : List P) : pTuple [.lst xs] = some (.tup xs) := rfl
@[simp] theorem pTuple_tup (xs : List P) : pTuple [.tup xs] = some (.tup xs) := rfl
@[simp] theorem pList_lst (xs : List P) : pList [.lst xs] = some (.lst xs) := rfl
@[simp] theorem pIx_lst (xs : List P) (i : Int) : pIx (.lst xs) (.int i) = atI xs i := rfl
@[simp] theorem pIx_scr (xs : List P) (i : Int) : pIx (.scr xs) (.int i) = atI xs i := rfl
@[simp] theorem pIx_tup (xs : List P) (i : Int) : pIx (.tup xs) (.int i) = atI xs i := rfl
@[simp] theorem itemsP_lst (xs : List P) : itemsP (.lst xs) = some xs := rfl
@[simp] theorem itemsP_tup (xs : List P) : itemsP (.tup xs) = some xs := rfl
@[simp] theorem itemsP_str (x : List Nat) : itemsP (.str x) = some (x.map fun c => .str [c]) := rfl
theorem bMul_l {i j : Int} (h : -(2 ^ 64) < i) (h' : i < 2 ^ 64) : bMul i j = true := by
  unfold bMul
  rw [decide_eq_true h, decide_eq_true h']
  rfl
theorem bMul_r {i j : Int} (h : -(2 ^ 64) < j) (h' : j < 2 ^ 64) : bMul i j = true := by
  unfold bMul
  rw [decide_eq_true h, decide_eq_true h']
  simp
theorem bDiv_of {i j : Int} (h : 0 < j) (h' : j < 1073741824) : bDiv i j = true := by
  unfold bDiv
  rw [decide_eq_true h, decide_eq_true h']
  rfl
theorem bMod_of {i j : Int} (h : 0 < j) : bMod i j = true := decide_eq_true h
theorem atN {A : Type} {xs : List A} {i : Nat} {x : A} (h : xs[i]? = some x) : atI xs (i : Int) = some x := by
  have hl := (List.getElem?_eq_some_iff.mp h).1
  unfold atI ixN
  rw [if_pos (by omega), if_pos (by omega)]
  exact h
@[simp] theorem atI_0 {A : Type} (x : A) (xs : List A) : atI (x :: xs) 0 = some x := atN (i := 0) rfl
@[simp] theorem atI_1 {A : Type} (x y : A) (xs : List A) : atI (x :: y :: xs) 1 = some y := atN (i := 1) rfl
@[simp] theorem atI_2 {A : Type} (x y z : A) (xs : List A) : atI (x :: y :: z :: xs) 2 = some z := atN (i := 2) rfl
theorem get_set_self {S : Sto} {k : Nat} {c c' : Cell} (h : S[k]? = some c) : (S.set k c')[k]? = some c' := by
  rw [List.getElem?_set_self (List.getElem?_eq_some_iff.mp h).1]
theorem get_set_ne {S : Sto} {k j : Nat} {c' : Cell} (h : k ≠ j) : (S.set k c')[j]? = S[j]? := List.getElem?_set_ne h
theorem setV_lst {S : Sto} {k n : Nat} {xs : List P} {j : Int} {x : P} (h : S[k]? = some (.lst xs)) (hj : ixN xs.length j = some n) : setV (.c k) (.p (.int j)) (.p x) S = .ok () (S.set k (.lst (xs.set n x))) := by
  unfold setV
  dsimp only
  rw [h]
  dsimp only
  rw [frz_p, bind_ok, h]
  dsimp only
  rw [hj]
end Mir
namespace Mir
open L2
@[simp] theorem endF_p (n : Nat) (x : P) (S : Sto) : endF n (.ok (.rt (.p x)) S) = .ok (.p x) (S.take n) := rfl
@[simp] theorem endF_nx (n : Nat) (ρ : En) (S : Sto) : endF n (.ok (.nx ρ) S) = .ok (.p .non) (S.take n) := rfl
theorem take_len {S S' : Sto} (h : S'.length = S.length) : S'.take S.length = S' := List.take_of_length_le (by omega)
@[simp] theorem take_self (S : Sto) : S.take S.length = S := List.take_of_length_le (Nat.le_refl _)
@[simp] theorem take_app (S T : Sto) : (S ++ T).take S.length = S := by simp
theorem mkF_eq (n k : Nat) (b : MS) (ds : List Vl) (S : Sto) (h : ds.length = n) : mkF n k b ds S = endF S.length (b (ds.map some ++ List.replicate k none) S) := if_pos h
theorem forGo_cons (g : MG) (b : MS) (x : P) (xs : List P) (ρ : En) (S : Sto) : forGo g b (x :: xs) ρ S = ((g (.p x) ρ S).nox).go ρ fun ρ1 S1 => match b ρ1 S1 with
    | .ok (.nx ρ2) S2 => forGo g b xs ρ2 S2
    | .ok (.ct ρ2) S2 => forGo g b xs ρ2 S2
    | .ok (.bk ρ2) S2 => .ok (.nx ρ2) S2
    | .ok (.rt d) S2 => .ok (.rt d) S2
    | .ok (.xc ρ2 c x) S2 => .ok (.xc ρ2 c x) S2
    | .bad => .bad := rfl
end Mir
namespace Mir
open L2
@[simp] theorem pEq_int (i j : Int) : pEq (.int i) (.int j) = some (.bl (i == j)) := rfl
@[simp] theorem pNe_int (i j : Int) : pNe (.int i) (.int j) = some (.bl (!(i == j))) := rfl
@[simp] theorem rangeP_length (lo : Int) (n : Nat) : (rangeP lo n).length = n := by
  unfold rangeP
  rw [List.length_map, List.length_range]
theorem rangeP_0 (n : Nat) : rangeP 0 n = (List.range n).map fun (k : Nat) => P.int (k : Int) := by
  unfold rangeP
  apply List.map_congr_left
  intro a _
  rw [Int.zero_add]
theorem ixV_lsv {S : Sto} {k : Nat} {xs : List Vl} {j : Int} {x : Vl} (h : S[k]? = some (.lsv xs)) (hx : atI xs j = some x) : ixV (.c k) (.p (.int j)) S = .ok x S := by
  unfold ixV
  dsimp only
  rw [h]
  dsimp only
  rw [hx]
theorem fApp_lst {S : Sto} {k : Nat} {xs : List P} {y : P} (h : S[k]? = some (.lst xs)) (hl : xs.length < 100000) : fApp (.c k) [.p y] S = .ok (.p .non) (S.set k (.lst (xs ++ [y]))) := by
  unfold fApp
  dsimp only
  rw [h]
  dsimp only
  rw [frz_p, bind_ok, h]
  dsimp only
  rw [if_pos hl]
theorem frz_lst {S : Sto} {k : Nat} {xs : List P} (h : S[k]? = some (.lst xs)) : frz (.c k) S = .ok (.lst xs) (S.set k (.fz (.lst xs))) := by
  unfold frz frzN
  dsimp only
  rw [h]
theorem frz_fz {S : Sto} {k : Nat} {x : P} (h : S[k]? = some (.fz x)) : frz (.c k) S = .ok x S := by
  unfold frz frzN
  dsimp only
  rw [h]
end Mir
namespace Mir
open L2
theorem itRange1_nat {a : ME} {ρ : En} {S S1 : Sto} {n : Nat} (h : a ρ S = .ok (.p (.int (n : Int))) S1) (hn : n < 1000000) : itRange1 a ρ S = .ok (rangeP 0 n) S1 := by
  have h1 : (n : Int) < 2 ^ 62 := Int.lt_of_lt_of_le (b := 1000000) (by omega) (by decide)
  have h2 : -(2 ^ 62) ≤ (n : Int) := Int.le_trans (b := 0) (by decide) (by omega)
  unfold itRange1
  rw [h, bind_ok]
  dsimp only
  rw [if_pos ⟨h1, h2⟩, Int.toNat_natCast]
end Mir
namespace Mir
open L2
theorem eCall1_of {g : List P → Option P} {a : ME} {ρ : En} {S S1 : Sto} {x z : P} (h : a ρ S = .ok (.p x) S1) (hg : g [x] = some z) : eCall g (aCons a aNil) ρ S = .ok (.p z) S1 := by
  unfold eCall aCons aNil
  rw [h, bind_ok, bind_ok, bind_ok]
  show (match rds S1 [.p x] with
    | some xs => ofO (g xs) S1
    | none => Res.bad) = _
  rw [rds_p, rds_nil]
  show ofO (g [x]) S1 = _
  rw [hg]
  rfl
end Mir
namespace Mir
open L2
theorem lcGo_gen {A : Type} {g : MG} {t : MT} {e : ME} {ρ : En} {S : Sto} (en : A → P) (q : A → Bool) (f : A → P) : ∀ (ys : List A), (∀ y ∈ ys, ∃ ρ1, g (.p (en y)) ρ S = .ok ρ1 S ∧ t ρ1 S = .ok (q y) S ∧ (q y = true → e ρ1 S = .ok (.p (f y)) S)) →
    lcGo g t e ρ (ys.map en) S = .ok ((ys.filter q).map f) S
  | [], _ => rfl
  | x :: xs, h => by
    obtain ⟨ρ1, h1, h2, h3⟩ := h x List.mem_cons_self
    have ih := lcGo_gen en q f xs fun y hy => h y (List.mem_cons_of_mem _ hy)
    rw [List.map_cons]
    unfold lcGo
    rw [h1, nox_ok, bind_ok, h2, nox_ok, bind_ok]
    cases hq : q x with
    | false =>
      dsimp only
      rw [ih, List.filter_cons_of_neg (by rw [hq]; decide)]
    | true =>
      dsimp only
      rw [h3 hq, nox_ok, bind_ok, frz_p, bind_ok, ih, bind_ok, List.filter_cons_of_pos hq]
      rfl
theorem eLc_gen {A : Type} {it : MI} {vs : List Nat} {g : MG} {t : MT} {e : ME} {ρ : En} {S S1 : Sto} (ys : List A) (en : A → P) (q : A → Bool) (f : A → P) (hi : it ρ S = .ok (ys.map en) S1) (hl : ys.length ≤ 100000)
    (h : ∀ y ∈ ys, ∃ ρ1, g (.p (en y)) (wipeE ρ vs) S1 = .ok ρ1 S1 ∧ t ρ1 S1 = .ok (q y) S1 ∧ (q y = true → e ρ1 S1 = .ok (.p (f y)) S1)) : eLc it vs g t e ρ S = .ok (.p (.lst ((ys.filter q).map f))) S1 := by
  unfold eLc
  rw [hi, bind_ok, if_pos (by rw [List.length_map]; exact hl), lcGo_gen en q f ys h, bind_ok]
theorem eLc_genm {A : Type} {it : MI} {vs : List Nat} {g : MG} {e : ME} {ρ : En} {S S1 : Sto} (ys : List A) (en f : A → P) (hi : it ρ S = .ok (ys.map en) S1) (hl : ys.length ≤ 100000)
    (h : ∀ y ∈ ys, ∃ ρ1, g (.p (en y)) (wipeE ρ vs) S1 = .ok ρ1 S1 ∧ e ρ1 S1 = .ok (.p (f y)) S1) : eLc it vs g tsYes e ρ S = .ok (.p (.lst (ys.map f))) S1 := by
  have := eLc_gen (t := tsYes) (e := e) (g := g) (vs := vs) ys en (fun _ => true) f hi hl (fun x hx => by
    obtain ⟨ρ1, h1, h2⟩ := h x hx
    exact ⟨ρ1, h1, rfl, fun _ => h2⟩)
  rw [this, List.filter_eq_self.mpr (fun _ _ => rfl)]
theorem enumP_eq (xs : List P) : enumP 0 xs = (List.range xs.length).map fun (i : Nat) => P.tup [.int (i : Int), xs.getD i .non] := by
  apply List.ext_getElem?
  intro i
  rw [enumP_get, List.getElem?_map]
  by_cases h : i < xs.length
  · rw [List.getElem?_range h, List.getElem?_eq_getElem h]
    simp [h]
  · rw [List.getElem?_eq_none (by omega), List.getElem?_eq_none (by rw [List.length_range]; omega)]
    rfl
theorem itEnum_p {a : ME} {ρ : En} {S S1 : Sto} {xs : List P} (h : a ρ S = .ok (.p (.lst xs)) S1) : itEnum a ρ S = .ok ((List.range xs.length).map fun (i : Nat) => P.tup [.int (i : Int), xs.getD i .non]) S1 := by
  unfold itEnum
  rw [h, bind_ok, frz_p, bind_ok]
  dsimp only
  rw [enumP_eq]
end Mir

namespace Mir
open L2 Pl
abbrev nums (l : List Nat) : List P := l.map fun (e : Nat) => P.int (e : Int)
@[simp] theorem ints_length (l : List Nat) : (nums l).length = l.length := List.length_map _
theorem ints_append (l m : List Nat) : nums (l ++ m) = nums l ++ nums m := List.map_append
end Mir

namespace Mir
open PySem L2
def andK (x : Bool) (r : Res Bool) (S : Sto) : Res Bool := match x with
  | true => r
  | false => .ok false S
def orK (x : Bool) (r : Res Bool) (S : Sto) : Res Bool := match x with
  | true => .ok true S
  | false => r
def eandK (x : Bool) (r : Res Vl) (S : Sto) : Res Vl := match x with
  | true => r
  | false => .ok (.p (.bl false)) S
def eorK (x : Bool) (r : Res Vl) (S : Sto) : Res Vl := match x with
  | true => .ok (.p (.bl true)) S
  | false => r
def ifK {A : Type} (x : Bool) (a b : A) : A := match x with
  | true => a
  | false => b
section
variable {ρ ρ1 ρ2 : En} {S S1 S2 S3 : Sto} {a b c : ME} {t u : MT} {m r : MA} {s s' : MS} {x y z w : P} {d e v : Vl} {ds es : List Vl} {xs ys : List P}
theorem ev_var {i : Nat} (h : ρ[i]? = some (some d)) : eVar i ρ S = .ok d S := by
  unfold eVar
  rw [h]
theorem ev_c : eC x ρ S = .ok (.p x) S := rfl
theorem ev_un {f : P → Option P} (ha : a ρ S = .ok d S1) (hd : rd S1 d = some x) (hf : f x = some z) : eUn f a ρ S = .ok (.p z) S1 := by
  rw [eUn_eq, ha, bind_ok, op1_rd hd, hf, ofO_some]
theorem ev_bin {f : P → P → Option P} (ha : a ρ S = .ok d S1) (hb : b ρ S1 = .ok e S2) (hd : rd S2 d = some x) (he : rd S2 e = some y) (hf : f x y = some z) : eBin f a b ρ S = .ok (.p z) S2 := by
  rw [eBin_eq, ha, bind_ok, hb, bind_ok, op2_rd hd he, hf, ofO_some]
theorem ev_item (ha : a ρ S = .ok d S1) (hb : b ρ S1 = .ok e S2) (hx : ixV (nv S2 d) e S2 = .ok v S2) : eItem a b ρ S = .ok v S2 := by
  rw [eItem_eq, ha, bind_ok, hb, bind_ok, hx]
theorem ixv_p (h : pIx x y = some z) : ixV (nv S (.p x)) (.p y) S = .ok (.p z) S := by
  rw [nv_p, ixV_p, op2_pp, h, ofO_some]
theorem ixv_l {k : Nat} {j : Int} (hk : S[k]? = some (.lst xs)) (h : atI xs j = some z) : ixV (nv S (.c k)) (.p (.int j)) S = .ok (.p z) S := by
  rw [nv_lst hk, ixV_lst hk, h, ofO_some]
theorem ixv_v {k : Nat} {j : Int} {vs : List Vl} (hk : S[k]? = some (.lsv vs)) (h : atI vs j = some v) : ixV (nv S (.c k)) (.p (.int j)) S = .ok v S := by
  rw [nv_lsv hk, ixV_lsv hk h]
theorem ixv_f {k : Nat} (hk : S[k]? = some (.fz x)) (h : pIx x y = some z) : ixV (nv S (.c k)) (.p y) S = .ok (.p z) S := by
  rw [nv_fz hk, ixV_p, op2_pp, h, ofO_some]
theorem rds_c (h : rd S d = some x) (h2 : rds S ds = some xs) : rds S (d :: ds) = some (x :: xs) := by
  rw [rds_rd h, h2]
  rfl
theorem ev_call {f : List P → Option P} (hm : m ρ S = .ok ds S1) (hr : rds S1 ds = some xs) (hf : f xs = some z) : eCall f m ρ S = .ok (.p z) S1 := by
  rw [eCall_eq, hm, bind_ok, call1_eq, hr]
  dsimp only
  rw [hf, ofO_some]
theorem ev_mth {T : String} {f : P → List P → Option P} (ha : a ρ S = .ok d S1) (hr : rd S1 d = some x) (ht : tyP T x = true) (hm : m ρ S1 = .ok ds S2) (hr2 : rd S2 d = some y) (hrs : rds S2 ds = some xs) (hf : f y xs = some z) : eMthT T f a m ρ S = .ok (.p z) S2 := by
  rw [eMthT_p, ha, bind_ok, hr]
  dsimp only
  rw [ht, if_pos rfl, hm, bind_ok, call1_eq, rds_c hr2 hrs]
  dsimp only
  rw [hf, ofO_some]
theorem ev_mut {g : Sto → Vl → Bool} {f : FM} (ha : a ρ S = .ok d S1) (hg : g S1 d = true) (hm : m ρ S1 = .ok ds S2) (hf : f d ds S2 = .ok v S3) : eMut g f a m ρ S = .ok v S3 := by
  rw [eMut_eq, ha, bind_ok, hg, if_pos rfl, hm, bind_ok, hf]
theorem ev_fn {f : MF} (hm : m ρ S = .ok ds S1) (hf : f ds S1 = .ok v S2) : eFn f m ρ S = .ok v S2 := by
  rw [eFn_eq, hm, bind_ok, hf]
theorem ev_fnK {f : MF} {n kl : Nat} {pm : List Nat} {zs as : List Vl} (hm : m ρ S = .ok ds S1) (hr : r ρ S1 = .ok zs S2) (h1 : ds.length = n) (h2 : zs.length = kl) (hp : permL (.p .non) pm (ds ++ zs) = as) (hf : f as S2 = .ok v S3) : eFnK f n kl pm m r ρ S = .ok v S3 := by
  unfold eFnK
  rw [hm, bind_ok, hr, bind_ok, if_pos ⟨h1, h2⟩, hp, hf]
theorem ev_meth {c f : PySem.Str} {g : MF} (ha : a ρ S = .ok d S1) (hg : isO c f S1 (nv S1 d) = true) (hm : m ρ S1 = .ok ds S2) (hf : g (d :: ds) S2 = .ok v S3) : eMeth c f g a m ρ S = .ok v S3 := by
  rw [eMeth_eq, ha, bind_ok, hg, if_pos rfl, hm, bind_ok, hf]
theorem ev_methK {c f : PySem.Str} {g : MF} {n kl : Nat} {pm : List Nat} {zs as : List Vl} (ha : a ρ S = .ok d S1) (hg : isO c f S1 (nv S1 d) = true) (hm : m ρ S1 = .ok ds S2) (hr : r ρ S2 = .ok zs S3) (h1 : ds.length = n) (h2 : zs.length = kl) {S4 : Sto}
    (hp : permL (.p .non) pm (d :: (ds ++ zs)) = as) (hf : g as S3 = .ok v S4) : eMethK c f g n kl pm a m r ρ S = .ok v S4 := by
  unfold eMethK
  rw [ha, bind_ok, hg, if_pos rfl, hm, bind_ok, hr, bind_ok, if_pos ⟨h1, h2⟩, ← List.cons_append] at *
  first
    | exact hf
    | (rw [hp]; exact hf)
    | (simp only [List.cons_append] at hp ⊢; rw [hp]; exact hf)
theorem ev_make {kp : Bool} {c : PySem.Str} {g : MF} (hm : m ρ S = .ok ds S1) (hf : mkO kp c g ds S1 = .ok v S2) : eMake kp c g m ρ S = .ok v S2 := by
  rw [eMake_eq, hm, bind_ok, hf]
theorem ev_fld {c f : PySem.Str} (ha : a ρ S = .ok d S1) (hf : fldV c f (nv S1 d) S1 = .ok v S1) : eFld c f a ρ S = .ok v S1 := by
  rw [eFld_eq, ha, bind_ok, hf]
theorem ev_prop {c : PySem.Str} {f : MF} (ha : a ρ S = .ok d S1) (hg : isC c S1 (nv S1 d) = true) (hf : f [d] S1 = .ok v S2) : eProp c f a ρ S = .ok v S2 := by
  rw [eProp_eq, ha, bind_ok, hg, if_pos rfl, hf, nox_ok]
theorem ev_isi {cs : List PySem.Str} {T : Tg} {q : Bool} (ha : a ρ S = .ok d S1) (hb : b ρ S1 = .ok (.p y) S2) (ht : tgOf S2 (nv S2 d) = some T) (hi : isT cs T y = some q) : eIsi cs a b ρ S = .ok (.p (.bl q)) S2 := by
  unfold eIsi
  rw [ha, bind_ok, hb, bind_ok, ht]
  dsimp only
  rw [hi]
theorem ev_anil : aNil ρ S = .ok [] S := rfl
theorem ev_acons (ha : a ρ S = .ok d S1) (hm : m ρ S1 = .ok ds S2) : aCons a m ρ S = .ok (d :: ds) S2 := by
  rw [aCons_eq, ha, bind_ok, hm, bind_ok]
theorem ev_tval {q : Bool} (ha : a ρ S = .ok (.p (.bl q)) S1) : tVal a ρ S = .ok q S1 := by
  rw [tVal_eq, ha, bind_ok, tst_bl]
theorem ev_tand {q q2 : Bool} (ht : t ρ S = .ok q S1) (hk : andK q (u ρ S1) S1 = .ok q2 S2) : tAndM t u ρ S = .ok q2 S2 := by
  rw [tAnd_eq, ht, bind_ok]
  exact hk
theorem ev_tor {q q2 : Bool} (ht : t ρ S = .ok q S1) (hk : orK q (u ρ S1) S1 = .ok q2 S2) : tOrM t u ρ S = .ok q2 S2 := by
  rw [tOr_eq, ht, bind_ok]
  exact hk
theorem ev_tnot {q q' : Bool} (ht : t ρ S = .ok q S1) (hq : (!q) = q') : tNotM t ρ S = .ok q' S1 := by
  rw [tNot_eq, ht, bind_ok, hq]
theorem ev_eand {q : Bool} (ha : a ρ S = .ok (.p (.bl q)) S1) (hk : eandK q (b ρ S1) S1 = .ok v S2) : eAndM a b ρ S = .ok v S2 := by
  rw [eAnd_eq, ha, bind_ok, tst_bl, bind_ok]
  exact hk
theorem ev_eor {q : Bool} (ha : a ρ S = .ok (.p (.bl q)) S1) (hk : eorK q (b ρ S1) S1 = .ok v S2) : eOrM a b ρ S = .ok v S2 := by
  rw [eOr_eq, ha, bind_ok, tst_bl, bind_ok]
  exact hk
theorem ev_enot {q q' : Bool} (ha : a ρ S = .ok (.p (.bl q)) S1) (hq : (!q) = q') : eNotM a ρ S = .ok (.p (.bl q')) S1 := by
  rw [eNot_eq, ha, bind_ok, tst_bl, bind_ok, hq]
theorem ev_if {q : Bool} (ht : t ρ S = .ok q S1) (hk : ifK q (a ρ S1) (b ρ S1) = .ok v S2) : eIfM t a b ρ S = .ok v S2 := by
  rw [eIf_eq, ht, bind_ok]
  exact hk
theorem ev_isN (ha : a ρ S = .ok d S1) {q : Bool} (h : isN d = q) : eIsN a ρ S = .ok (.p (.bl q)) S1 := by
  rw [eIsN_eq, ha, bind_ok, h]
theorem ev_notN (ha : a ρ S = .ok d S1) {q : Bool} (h : (!isN d) = q) : eNotN a ρ S = .ok (.p (.bl q)) S1 := by
  rw [eNotN_eq, ha, bind_ok, h]

theorem andK_f {r : Res Bool} : andK false r S = .ok false S := rfl
theorem andK_t {r o : Res Bool} (h : r = o) : andK true r S = o := h
theorem andK_s {q q2 : Bool} {r : Res Bool} (h : q = true → r = .ok q2 S) : andK q r S = .ok (q && q2) S := by
  cases q with
  | false => rfl
  | true => exact h rfl
theorem orK_t {r : Res Bool} : orK true r S = .ok true S := rfl
theorem orK_f {r o : Res Bool} (h : r = o) : orK false r S = o := h
theorem orK_s {q q2 : Bool} {r : Res Bool} (h : q = false → r = .ok q2 S) : orK q r S = .ok (q || q2) S := by
  cases q with
  | true => rfl
  | false => exact h rfl
theorem eandK_f {r : Res Vl} : eandK false r S = .ok (.p (.bl false)) S := rfl
theorem eandK_t {r o : Res Vl} (h : r = o) : eandK true r S = o := h
theorem eandK_s {q q2 : Bool} {r : Res Vl} (h : q = true → r = .ok (.p (.bl q2)) S) : eandK q r S = .ok (.p (.bl (q && q2))) S := by
  cases q with
  | false => rfl
  | true => exact h rfl
theorem eorK_t {r : Res Vl} : eorK true r S = .ok (.p (.bl true)) S := rfl
theorem eorK_f {r o : Res Vl} (h : r = o) : eorK false r S = o := h
theorem eorK_s {q q2 : Bool} {r : Res Vl} (h : q = false → r = .ok (.p (.bl q2)) S) : eorK q r S = .ok (.p (.bl (q || q2))) S := by
  cases q with
  | true => rfl
  | false => exact h rfl
theorem ifK_t {A : Type} {p q o : A} (h : p = o) : ifK true p q = o := h
theorem ifK_f {A : Type} {p q o : A} (h : q = o) : ifK false p q = o := h
theorem ifK_yes {A : Type} {x : Bool} {p q o : A} (hx : x = true) (h : p = o) : ifK x p q = o := by
  subst hx
  exact h
theorem ifK_no {A : Type} {x : Bool} {p q o : A} (hx : x = false) (h : q = o) : ifK x p q = o := by
  subst hx
  exact h
theorem ifK_s {q : Bool} {r r' : Res Vl} (h : q = true → r = .ok (.p x) S) (h' : q = false → r' = .ok (.p y) S) : ifK q r r' = .ok (.p (if q then x else y)) S := by
  cases q with
  | true => exact h rfl
  | false => exact h' rfl
theorem ifK_n {q : Bool} {i j : Nat} {r r' : Res Vl} (h : q = true → r = .ok (.p (.int (i : Int))) S) (h' : q = false → r' = .ok (.p (.int (j : Int))) S) : ifK q r r' = .ok (.p (.int ((if q then i else j : Nat) : Int))) S := by
  cases q with
  | true => exact h rfl
  | false => exact h' rfl
theorem ifK_i {q : Bool} {i j : Int} {r r' : Res Vl} (h : q = true → r = .ok (.p (.int i)) S) (h' : q = false → r' = .ok (.p (.int j)) S) : ifK q r r' = .ok (.p (.int (if q then i else j))) S := by
  cases q with
  | true => exact h rfl
  | false => exact h' rfl

theorem frzs_z : frzs [] S = .ok [] S := rfl
theorem frzs_s (h : frz d S = .ok x S1) (h2 : frzs ds S1 = .ok xs S2) : frzs (d :: ds) S = .ok (x :: xs) S2 := by
  rw [frzs_cons, h, bind_ok, h2, bind_ok]
theorem ev_tup (hm : m ρ S = .ok ds S1) (hf : frzs ds S1 = .ok xs S2) (hl : xs.length ≤ 100000) : eTup m ρ S = .ok (.p (.tup xs)) S2 := by
  rw [eTup_eq, hm, bind_ok, hf, bind_ok, if_pos hl]
theorem ev_lst (hm : m ρ S = .ok ds S1) (hf : frzs ds S1 = .ok xs S2) (hl : xs.length ≤ 100000) : eLst m ρ S = .ok (.p (.lst xs)) S2 := by
  rw [eLst_eq, hm, bind_ok, hf, bind_ok, if_pos hl]
theorem ev_lstC (hm : m ρ S = .ok ds S1) (hf : frzs ds S1 = .ok xs S2) (hl : xs.length ≤ 100000) : eLstC m ρ S = .ok (.c S2.length) (S2 ++ [.lst xs]) := by
  rw [eLstC_eq, hm, bind_ok, hf, bind_ok, if_pos hl]

theorem ev_sl {l h : En → Sto → Res (Option Int)} {lo hi : Option Int} (ha : a ρ S = .ok d S1) (hl : l ρ S1 = .ok lo S2) (hh : h ρ S2 = .ok hi S3) (hd : rd S3 d = some x) (hf : pSl lo hi x = some z) : eSl a l h ρ S = .ok (.p z) S3 := by
  rw [eSl_eq, ha, bind_ok, hl, bind_ok, hh, bind_ok, op1_rd hd, hf, ofO_some]
theorem ev_ono : oNo ρ S = .ok none S := rfl
theorem ev_oyes {i : Int} (ha : a ρ S = .ok (.p (.int i)) S1) : oYes a ρ S = .ok (some i) S1 := by
  rw [oYes_eq, ha, bind_ok, intV_int]

theorem ev_itOf (ha : a ρ S = .ok d S1) (hf : frz d S1 = .ok x S2) (hi : itemsP x = some xs) : itOf a ρ S = .ok xs S2 := by
  rw [itOf_eq, ha, bind_ok, hf, bind_ok, hi]
theorem ev_range1 {n : Nat} (ha : a ρ S = .ok (.p (.int (n : Int))) S1) (hn : n < 1000000) : itRange1 a ρ S = .ok ((List.range n).map fun (k : Nat) => P.int (k : Int)) S1 := by
  rw [itRange1_nat ha hn, rangeP_0]
theorem ev_range1i {i : Int} {n : Nat} (ha : a ρ S = .ok (.p (.int i)) S1) (hi : i = (n : Int)) (hn : n < 1000000) : itRange1 a ρ S = .ok ((List.range n).map fun (k : Nat) => P.int (k : Int)) S1 := by
  subst hi
  exact ev_range1 ha hn
theorem ev_enum_map {A : Type} {ys : List A} {f : A → P} [Inhabited A] (ha : a ρ S = .ok (.p (.lst (ys.map f))) S1) : itEnum a ρ S = .ok ((List.range ys.length).map fun (i : Nat) => P.tup [.int (i : Int), f (ys.getD i default)]) S1 := by
  rw [itEnum_p ha]
  congr 1
  rw [List.length_map]
  apply List.map_congr_left
  intro i hi
  have hi := List.mem_range.mp hi
  simp [hi]
theorem zipP_map {A B : Type} (f : A → P) (g : B → P) : ∀ (xs : List A) (ys : List B), zipP (xs.map f) (ys.map g) = (xs.zip ys).map fun q => P.tup [f q.1, g q.2]
  | [], _ => rfl
  | _ :: _, [] => rfl
  | x :: xs, y :: ys => by
    show _ :: zipP (xs.map f) (ys.map g) = _
    rw [zipP_map f g xs ys]
    rfl
theorem ev_zip {A B : Type} {f : A → P} {g : B → P} {us : List A} {ws : List B} (ha : a ρ S = .ok (.p (.lst (us.map f))) S1) (hb : b ρ S1 = .ok (.p (.lst (ws.map g))) S2) : itZip a b ρ S = .ok ((us.zip ws).map fun q => P.tup [f q.1, g q.2]) S2 := by
  unfold itZip
  rw [ha, bind_ok, hb, bind_ok]
  dsimp only
  rw [zipP_map]

theorem ev_lc {A : Type} {it : MI} {vs : List Nat} {g : MG} {ys : List A} {en f : A → P} {q : A → Bool} {ρ0 : En} {ρ1 : A → En} (hi : it ρ S = .ok (ys.map en) S1) (hl : ys.length ≤ 100000) (hw : wipeE ρ vs = ρ0)
    (hg : ∀ y, y ∈ ys → g (.p (en y)) ρ0 S1 = .ok (ρ1 y) S1) (ht : ∀ y, y ∈ ys → t (ρ1 y) S1 = .ok (q y) S1) (he : ∀ y, y ∈ ys → q y = true → a (ρ1 y) S1 = .ok (.p (f y)) S1) : eLc it vs g t a ρ S = .ok (.p (.lst ((ys.filter q).map f))) S1 := by
  subst hw
  exact eLc_gen ys en q f hi hl fun y hy => ⟨ρ1 y, hg y hy, ht y hy, he y hy⟩
theorem ev_lcm {A : Type} {it : MI} {vs : List Nat} {g : MG} {ys : List A} {en f : A → P} {ρ0 : En} {ρ1 : A → En} (hi : it ρ S = .ok (ys.map en) S1) (hl : ys.length ≤ 100000) (hw : wipeE ρ vs = ρ0)
    (hg : ∀ y, y ∈ ys → g (.p (en y)) ρ0 S1 = .ok (ρ1 y) S1) (he : ∀ y, y ∈ ys → a (ρ1 y) S1 = .ok (.p (f y)) S1) : eLc it vs g tsYes a ρ S = .ok (.p (.lst (ys.map f))) S1 := by
  subst hw
  exact eLc_genm ys en f hi hl fun y hy => ⟨ρ1 y, hg y hy, he y hy⟩
theorem ev_lcx {it : MI} {vs : List Nat} {g : MG} {ρ0 : En} (hi : it ρ S = .ok xs S1) (hl : xs.length ≤ 100000) (hw : wipeE ρ vs = ρ0) (hg : lcGo g t a ρ0 xs S1 = .ok ys S2) : eLc it vs g t a ρ S = .ok (.p (.lst ys)) S2 := by
  subst hw
  unfold eLc
  rw [hi, bind_ok, if_pos hl, hg, bind_ok]
theorem lcx_nil {g : MG} : lcGo g t a ρ [] S = .ok [] S := rfl
theorem lcx_yes {g : MG} {S4 : Sto} (hg : g (.p x) ρ S = .ok ρ1 S) (ha : a ρ1 S = .ok d S2) (hf : frz d S2 = .ok y S3) (hr : lcGo g tsYes a ρ xs S3 = .ok ys S4) : lcGo g tsYes a ρ (x :: xs) S = .ok (y :: ys) S4 := by
  unfold lcGo
  rw [hg, nox_ok, bind_ok]
  show ((Res.ok true S).nox.bind _) = _
  rw [nox_ok, bind_ok]
  dsimp only
  rw [ha, nox_ok, bind_ok, hf, bind_ok, hr, bind_ok]

theorem ev_gnm {i : Nat} (h : ρ.set i (some d) = ρ1) : gNm i d ρ S = .ok ρ1 S := by
  rw [gNm_eq, h]
theorem ev_gtp {n : Nat} {r : MGs} {vs : List Vl} (hl : xs.length = n) (hv : xs.map Vl.p = vs) (hr : r vs ρ S = .ok ρ1 S1) : gTp n r (.p (.tup xs)) ρ S = .ok ρ1 S1 := by
  rw [gTp_eq, if_pos hl, hv, hr]
theorem ev_gnl : gNl [] ρ S = .ok ρ S := rfl
theorem ev_gcn {g : MG} {r : MGs} (hg : g d ρ S = .ok ρ1 S1) (hr : r ds ρ1 S1 = .ok ρ2 S2) : gCn g r (d :: ds) ρ S = .ok ρ2 S2 := by
  rw [gCn_eq, hg, nox_ok, bind_ok, hr]
theorem ev_gsub {ρ' : En} (ha : a ρ S = .ok e S1) (hb : b ρ S1 = .ok v S2) (hs : setV e v d S2 = .ok () S3) : gSubM a b d ρ S = .ok ρ S3 := by
  rw [gSub_eq, ha, nox_ok, bind_ok, hb, nox_ok, bind_ok, hs, bind_ok]

theorem ev_pass : sPass ρ S = .ok (.nx ρ) S := rfl
theorem ev_expr (ha : a ρ S = .ok d S1) : sExpr a ρ S = .ok (.nx ρ) S1 := by
  rw [sExpr_eq, ha, go_ok]
theorem ev_ret (ha : a ρ S = .ok d S1) : sRet a ρ S = .ok (.rt d) S1 := by
  rw [sRet_eq, ha, go_ok]
theorem ev_retN : sRetN ρ S = .ok (.rt (.p .non)) S := rfl
theorem ev_seq {f : Fl} {o : RF} (h1 : s ρ S = .ok f S1) (h2 : (RF.ok f S1).thn s' = o) : sSeq s s' ρ S = o := by
  rw [sSeq_eq, h1, h2]
theorem thn_n {o : RF} (h : s ρ S = o) : (RF.ok (.nx ρ) S).thn s = o := h
theorem thn_r : (RF.ok (.rt d) S).thn s = .ok (.rt d) S := rfl
theorem ev_asg {g : MG} (ha : a ρ S = .ok d S1) (hg : g d ρ S1 = .ok ρ1 S2) : sAsg a g ρ S = .ok (.nx ρ1) S2 := by
  rw [sAsg_eq, ha, go_ok, hg, nox_ok, go_ok]
theorem ev_par {i j : Nat} (hm : m ρ S = .ok [d, e] S1) (h : (ρ.set i (some d)).set j (some e) = ρ1) : sPar i j m ρ S = .ok (.nx ρ1) S1 := by
  rw [sPar_eq, hm, go_ok]
  dsimp only
  rw [h]
theorem ev_par3 {i j l : Nat} (hm : m ρ S = .ok [d, e, v] S1) (h : ((ρ.set i (some d)).set j (some e)).set l (some v) = ρ1) : sPar3 i j l m ρ S = .ok (.nx ρ1) S1 := by
  rw [sPar3_eq, hm, go_ok]
  dsimp only
  rw [h]
theorem ev_parG {n : Nat} {g : MGs} (hm : m ρ S = .ok ds S1) (h1 : ds.length = n) (h2 : n ≤ 100000) (hg : g ds ρ S1 = .ok ρ1 S2) : sParG n m g ρ S = .ok (.nx ρ1) S2 := by
  rw [sParG_eq, hm, go_ok, if_pos ⟨h1, h2⟩, hg, nox_ok, go_ok]
theorem ev_sif {q : Bool} {o : RF} (ht : t ρ S = .ok q S1) (hk : ifK q (s ρ S1) (s' ρ S1) = o) : sIf t s s' ρ S = o := by
  rw [sIf_eq, ht, go_ok]
  exact hk

theorem ev_mkF {n k : Nat} {body : MS} {f : Fl} {o : Res Vl} (hl : ds.length = n) (hρ : ds.map some ++ List.replicate k none = ρ) (h : body ρ S = .ok f S1) (hr : endF S.length (.ok f S1) = o) : mkF n k body ds S = o := by
  rw [mkF_eq n k body ds S hl, hρ, h, hr]
theorem end_self : endF S.length (.ok (.rt (.p x)) S) = .ok (.p x) S := by
  rw [endF_p, take_self]
theorem end_nx : endF S.length (.ok (.nx ρ) S) = .ok (.p .non) S := by
  rw [endF_nx, take_self]
theorem end_app {T : Sto} : endF S.length (.ok (.rt (.p x)) (S ++ T)) = .ok (.p x) S := by
  rw [endF_p, take_app]
theorem end_nxa {T : Sto} : endF S.length (.ok (.nx ρ) (S ++ T)) = .ok (.p .non) S := by
  rw [endF_nx, take_app]

theorem cell0 {c : Cell} {T : Sto} : (S ++ (c :: T))[S.length]? = some c := by simp
theorem cell1 {c0 c : Cell} {T : Sto} : (S ++ (c0 :: c :: T))[S.length + 1]? = some c := by simp
theorem cell2 {c0 c1 c : Cell} {T : Sto} : (S ++ (c0 :: c1 :: c :: T))[S.length + 2]? = some c := by simp
end
end Mir

namespace Pl
def bitsN (l : List Nat) : Nat := (l.map fun a => 2 ^ a).sum
theorem test_add {a m : Nat} (h : m.testBit a = false) (i : Nat) : (m + 2 ^ a).testBit i = (m.testBit i || i == a) := by
  induction a generalizing m i with
  | zero =>
    rw [Nat.testBit_zero] at h
    have hm : m % 2 = 0 := by
      have := of_decide_eq_false h
      omega
    cases i with
    | zero =>
      rw [Nat.testBit_zero, Nat.testBit_zero]
      have e : (m + 2 ^ 0) % 2 = 1 := by simp; omega
      rw [e]
      simp
    | succ i =>
      rw [Nat.testBit_succ, Nat.testBit_succ]
      have e : (m + 2 ^ 0) / 2 = m / 2 := by simp; omega
      rw [e]
      simp
  | succ a ih =>
    rw [Nat.testBit_succ] at h
    cases i with
    | zero =>
      rw [Nat.testBit_zero, Nat.testBit_zero]
      have e : (m + 2 ^ (a + 1)) % 2 = m % 2 := by rw [Nat.pow_succ]; omega
      rw [e]
      simp
    | succ i =>
      rw [Nat.testBit_succ, Nat.testBit_succ]
      have e : (m + 2 ^ (a + 1)) / 2 = m / 2 + 2 ^ a := by rw [Nat.pow_succ]; omega
      rw [e, ih h]
      congr 1
      rw [Bool.eq_iff_iff]
      simp
theorem bits_test : ∀ {l : List Nat}, l.Nodup → ∀ i, (bitsN l).testBit i = l.contains i
  | [], _, i => by simp [bitsN]
  | a :: l, h, i => by
    rw [List.nodup_cons] at h
    have ih := bits_test h.2
    have e : bitsN (a :: l) = bitsN l + 2 ^ a := by
      show 2 ^ a + (l.map fun a => 2 ^ a).sum = _
      rw [Nat.add_comm]
      rfl
    rw [e, test_add (by rw [ih]; simpa using h.1), ih, List.contains_cons, Bool.or_comm]
theorem bits_lt {l : List Nat} {n : Nat} (h : l.Nodup) (hl : ∀ e ∈ l, e < n) : bitsN l < 2 ^ n := by
  apply Nat.lt_pow_two_of_testBit
  intro i hi
  rw [bits_test h]
  simp
  intro z
  have := hl i z
  omega
theorem sorted_eq : ∀ {l m : List Nat}, l.Pairwise (· < ·) → m.Pairwise (· < ·) → (∀ e, e ∈ l ↔ e ∈ m) → l = m
  | [], [], _, _, _ => rfl
  | [], b :: m, _, _, h => absurd ((h b).mpr List.mem_cons_self) (by simp)
  | a :: l, [], _, _, h => absurd ((h a).mp List.mem_cons_self) (by simp)
  | a :: l, b :: m, h1, h2, h => by
    rw [List.pairwise_cons] at h1 h2
    have hab : a = b := by
      have ha := (h a).mp List.mem_cons_self
      have hb := (h b).mpr List.mem_cons_self
      rcases List.mem_cons.mp ha with e | e
      · exact e
      · rcases List.mem_cons.mp hb with e2 | e2
        · exact e2.symm
        · have := h2.1 a e
          have := h1.1 b e2
          omega
    subst hab
    congr 1
    refine sorted_eq h1.2 h2.2 fun e => ?_
    constructor
    · intro he
      rcases List.mem_cons.mp ((h e).mp (List.mem_cons_of_mem _ he)) with z | z
      · subst z; have := h1.1 e he; omega
      · exact z
    · intro he
      rcases List.mem_cons.mp ((h e).mpr (List.mem_cons_of_mem _ he)) with z | z
      · subst z; have := h2.1 e he; omega
      · exact z
end Pl
namespace Mir
open PySem L2 Pl
theorem band_nat (a b : Nat) : Builtin.bitAnd (a : Int) (b : Int) = ((a &&& b : Nat) : Int) := PySem.W.os_band a b
theorem band_not (a b : Nat) : Builtin.bitAnd (a : Int) (Builtin.bitNot (b : Int)) = ((a - (a &&& b) : Nat) : Int) := by
  unfold Builtin.bitAnd
  have h1 : decide ((0 : Int) ≤ (a : Int)) = true := decide_eq_true (by omega)
  have h2 : decide ((0 : Int) ≤ Builtin.bitNot (b : Int)) = false := decide_eq_false (by unfold Builtin.bitNot; omega)
  rw [h1, h2]
  dsimp only
  have h3 : (Builtin.bitNot (Builtin.bitNot (b : Int))).toNat = b := by unfold Builtin.bitNot; omega
  rw [h3, Int.toNat_natCast]
  have : a &&& b ≤ a := Nat.and_le_left
  omega
theorem shr_test (b i : Nat) : Builtin.bitAnd ((b : Int) / 2 ^ (i : Int).toNat) 1 = if b.testBit i then 1 else 0 := by
  rw [PyProof.Rows.bitAnd_m1, Int.toNat_natCast]
  have e : ((b : Int) / 2 ^ i) % 2 = ((b / 2 ^ i % 2 : Nat) : Int) := by simp
  rw [e, Nat.testBit_eq_decide_div_mod_eq]
  rcases Nat.mod_two_eq_zero_or_one (b / 2 ^ i) with h | h <;> simp [h]
end Mir

namespace Mir
open PySem L2 Pl
section
variable {i j : Int} {a b n : Nat} {x y : List Nat} {xs ys : List P} {p q : P}
theorem op_addN : pAdd (.int (a : Int)) (.int (b : Int)) = some (.int ((a + b : Nat) : Int)) := by
  rw [pAdd_int, Int.natCast_add]
theorem op_addN1 : pAdd (.int (a : Int)) (.int 1) = some (.int ((a + 1 : Nat) : Int)) := rfl
theorem op_add1N : pAdd (.int 1) (.int (a : Int)) = some (.int ((1 + a : Nat) : Int)) := by
  rw [pAdd_int, Int.natCast_add]
  rfl
theorem op_add : pAdd (.int i) (.int j) = some (.int (i + j)) := rfl
theorem op_addS (h : x.length + y.length ≤ 100000) : pAdd (.str x) (.str y) = some (.str (x ++ y)) := by
  rw [pAdd_str, if_pos h]
theorem op_addL (h : xs.length + ys.length ≤ 100000) : pAdd (.lst xs) (.lst ys) = some (.lst (xs ++ ys)) := by
  rw [pAdd_lst, if_pos h]
theorem op_addT (h : xs.length + ys.length ≤ 100000) : pAdd (.tup xs) (.tup ys) = some (.tup (xs ++ ys)) := by
  rw [pAdd_tup, if_pos h]
theorem op_addLm {A : Type} {us ws : List A} {f : A → P} (h : us.length + ws.length ≤ 100000) : pAdd (.lst (us.map f)) (.lst (ws.map f)) = some (.lst ((us ++ ws).map f)) := by
  rw [op_addL (by rw [List.length_map, List.length_map]; exact h), List.map_append]
theorem op_addTm {A : Type} {us ws : List A} {f : A → P} (h : us.length + ws.length ≤ 100000) : pAdd (.tup (us.map f)) (.tup (ws.map f)) = some (.tup ((us ++ ws).map f)) := by
  rw [op_addT (by rw [List.length_map, List.length_map]; exact h), List.map_append]
theorem op_pI {g : Int → Int → Int} : pI g (.int i) (.int j) = some (.int (g i j)) := rfl
theorem op_pIB {g : Int → Int → Bool} : pIB g (.int i) (.int j) = some (.bl (g i j)) := rfl
theorem op_band : pI (fun i j => Builtin.bitAnd i j) (.int (a : Int)) (.int (b : Int)) = some (.int ((a &&& b : Nat) : Int)) := by
  rw [pI_int, band_nat]
theorem op_bandnot : pI (fun i j => Builtin.bitAnd i j) (.int (a : Int)) (.int (Builtin.bitNot (b : Int))) = some (.int ((a - (a &&& b) : Nat) : Int)) := by
  rw [pI_int, band_not]
theorem op_inv : pInv (.int i) = some (.int (Builtin.bitNot i)) := rfl
theorem op_shl (h : a ≤ 1000) : pIC bPow (fun i j => i * 2 ^ j.toNat) (.int 1) (.int (a : Int)) = some (.int ((2 ^ a : Nat) : Int)) := by
  have h1 : bPow 1 (a : Int) = true := by
    unfold bPow
    rw [decide_eq_true (show (0 : Int) ≤ (a : Int) by omega), decide_eq_true (show (a : Int) ≤ 1000000 by omega)]
    rfl
  rw [pIC_int, h1, if_pos rfl, Int.toNat_natCast, Int.one_mul]
  congr 2
theorem op_shr : pIC bShr (fun i j => i / 2 ^ j.toNat) (.int (a : Int)) (.int (b : Int)) = some (.int ((a / 2 ^ b : Nat) : Int)) := by
  have h1 : bShr (a : Int) (b : Int) = true := decide_eq_true (by omega)
  rw [pIC_int, h1, if_pos rfl, Int.toNat_natCast]
  simp
theorem op_and1 : pI (fun i j => Builtin.bitAnd i j) (.int ((a / 2 ^ b : Nat) : Int)) (.int 1) = some (.int (((a.testBit b).toNat : Nat) : Int)) := by
  rw [pI_int]
  have := shr_test a b
  rw [Int.toNat_natCast] at this
  have e : ((a / 2 ^ b : Nat) : Int) = (a : Int) / 2 ^ b := by simp
  rw [e, this]
  cases a.testBit b <;> rfl
theorem op_eqB1 {t : Bool} : pEq (.int ((t.toNat : Nat) : Int)) (.int 1) = some (.bl t) := by cases t <;> rfl
theorem op_eqB0 {t : Bool} : pEq (.int ((t.toNat : Nat) : Int)) (.int 0) = some (.bl (!t)) := by cases t <;> rfl
theorem op_eqN : pEq (.int (a : Int)) (.int (b : Int)) = some (.bl (a == b)) := by
  rw [pEq_int]
  congr 2
  rw [Bool.eq_iff_iff, beq_iff_eq, beq_iff_eq]
  omega
theorem op_neN : pNe (.int (a : Int)) (.int (b : Int)) = some (.bl (!(a == b))) := by
  rw [pNe_int]
  congr 3
  rw [Bool.eq_iff_iff, beq_iff_eq, beq_iff_eq]
  omega
theorem op_eqN0 : pEq (.int (a : Int)) (.int 0) = some (.bl (a == 0)) := op_eqN (b := 0)
theorem op_neN0 : pNe (.int (a : Int)) (.int 0) = some (.bl (!(a == 0))) := op_neN (b := 0)
theorem op_eqI : pEq (.int i) (.int j) = some (.bl (i == j)) := rfl
theorem op_neI : pNe (.int i) (.int j) = some (.bl (!(i == j))) := rfl
theorem op_ltN : pIB (fun i j => decide (i < j)) (.int (a : Int)) (.int (b : Int)) = some (.bl (decide (a < b))) := by
  rw [pIB_int]
  congr 2
  rw [Bool.eq_iff_iff, decide_eq_true_eq, decide_eq_true_eq]
  omega
theorem op_leN : pIB (fun i j => decide (i ≤ j)) (.int (a : Int)) (.int (b : Int)) = some (.bl (decide (a ≤ b))) := by
  rw [pIB_int]
  congr 2
  rw [Bool.eq_iff_iff, decide_eq_true_eq, decide_eq_true_eq]
  omega
theorem op_gtN : pIB (fun i j => decide (j < i)) (.int (a : Int)) (.int (b : Int)) = some (.bl (decide (b < a))) := by
  rw [pIB_int]
  congr 2
  rw [Bool.eq_iff_iff, decide_eq_true_eq, decide_eq_true_eq]
  omega
theorem op_geN : pIB (fun i j => decide (j ≤ i)) (.int (a : Int)) (.int (b : Int)) = some (.bl (decide (b ≤ a))) := by
  rw [pIB_int]
  congr 2
  rw [Bool.eq_iff_iff, decide_eq_true_eq, decide_eq_true_eq]
  omega
theorem op_eqD (h : p.dat 60 = true) (h2 : q.dat 60 = true) : pEq p q = some (.bl (p.eqv q)) := by
  unfold pEq
  rw [h, h2]
  rfl
theorem op_neD (h : p.dat 60 = true) (h2 : q.dat 60 = true) : pNe p q = some (.bl (!p.eqv q)) := by
  unfold pNe
  rw [h, h2]
  rfl
def asc (x : List Nat) : Bool := x.all fun c => decide (c < 128)
theorem op_eqS (h : asc x = true) (h2 : asc y = true) : pEq (.str x) (.str y) = some (.bl (x == y)) := op_eqD (p := .str x) (q := .str y) h h2
theorem op_neS (h : asc x = true) (h2 : asc y = true) : pNe (.str x) (.str y) = some (.bl (!(x == y))) := op_neD (p := .str x) (q := .str y) h h2
theorem eqvL_txt : ∀ {l m : List (List Nat)}, eqvL (l.map P.str) (m.map P.str) = (l == m)
  | [], [] => rfl
  | [], _ :: _ => rfl
  | _ :: _, [] => rfl
  | a :: l, b :: m => by
    show (a == b && eqvL (l.map P.str) (m.map P.str)) = _
    rw [eqvL_txt]
    rfl
theorem eqvL_num : ∀ {l m : List Nat}, eqvL (l.map fun (e : Nat) => P.int (e : Int)) (m.map fun (e : Nat) => P.int (e : Int)) = (l == m)
  | [], [] => rfl
  | [], _ :: _ => rfl
  | _ :: _, [] => rfl
  | a :: l, b :: m => by
    show ((a : Int) == (b : Int) && eqvL (l.map fun (e : Nat) => P.int (e : Int)) (m.map fun (e : Nat) => P.int (e : Int))) = _
    rw [eqvL_num, List.cons_beq_cons]
    congr 1
    rw [Bool.eq_iff_iff, beq_iff_eq, beq_iff_eq]
    omega
theorem datL_of {A : Type} {f : A → P} {m : Nat} : ∀ {l : List A}, (∀ x ∈ l, (f x).dat m = true) → datL (l.map f) m = true
  | [], _ => rfl
  | a :: l, h => by
    show ((f a).dat m && datL (l.map f) m) = true
    rw [h a List.mem_cons_self, datL_of fun x hx => h x (List.mem_cons_of_mem _ hx)]
    rfl
theorem op_eqTS {l m : List (List Nat)} (h : ∀ x ∈ l, asc x = true) (h2 : ∀ x ∈ m, asc x = true) : pEq (.tup (l.map P.str)) (.tup (m.map P.str)) = some (.bl (l == m)) := by
  rw [op_eqD (p := .tup (l.map P.str)) (q := .tup (m.map P.str)) (datL_of h) (datL_of h2)]
  show some (P.bl (eqvL _ _)) = _
  rw [eqvL_txt]
theorem op_neTS {l m : List (List Nat)} (h : ∀ x ∈ l, asc x = true) (h2 : ∀ x ∈ m, asc x = true) : pNe (.tup (l.map P.str)) (.tup (m.map P.str)) = some (.bl (!(l == m))) := by
  rw [op_neD (p := .tup (l.map P.str)) (q := .tup (m.map P.str)) (datL_of h) (datL_of h2)]
  show some (P.bl (!eqvL _ _)) = _
  rw [eqvL_txt]
theorem eqvL_nil {l : List P} : eqvL l [] = l.isEmpty := by cases l <;> rfl
theorem op_neL0 {A : Type} {l : List A} {f : A → P} (h : ∀ x ∈ l, (f x).dat 59 = true) : pNe (.lst (l.map f)) (.lst []) = some (.bl (!l.isEmpty)) := by
  rw [op_neD (p := .lst (l.map f)) (q := .lst []) (datL_of h) rfl]
  show some (P.bl (!eqvL _ [])) = _
  rw [eqvL_nil]
  cases l <;> rfl
theorem op_eqL0 {A : Type} {l : List A} {f : A → P} (h : ∀ x ∈ l, (f x).dat 59 = true) : pEq (.lst (l.map f)) (.lst []) = some (.bl l.isEmpty) := by
  rw [op_eqD (p := .lst (l.map f)) (q := .lst []) (datL_of h) rfl]
  show some (P.bl (eqvL _ [])) = _
  rw [eqvL_nil]
  cases l <;> rfl
theorem op_neT0 {A : Type} {l : List A} {f : A → P} (h : ∀ x ∈ l, (f x).dat 59 = true) : pNe (.tup (l.map f)) (.tup []) = some (.bl (!l.isEmpty)) := by
  rw [op_neD (p := .tup (l.map f)) (q := .tup []) (datL_of h) rfl]
  show some (P.bl (!eqvL _ [])) = _
  rw [eqvL_nil]
  cases l <;> rfl
theorem op_eqT0 {A : Type} {l : List A} {f : A → P} (h : ∀ x ∈ l, (f x).dat 59 = true) : pEq (.tup (l.map f)) (.tup []) = some (.bl l.isEmpty) := by
  rw [op_eqD (p := .tup (l.map f)) (q := .tup []) (datL_of h) rfl]
  show some (P.bl (eqvL _ [])) = _
  rw [eqvL_nil]
  cases l <;> rfl

theorem flat_map {A : Type} {l : List A} {f : A → P} (h : ∀ x, flatP (f x) = true) : (l.map f).all flatP = true := by
  rw [List.all_map, List.all_eq_true]
  exact fun x _ => h x
theorem inP_strs {A : Type} {l : List A} {f : A → List Nat} : inP (.str x) (l.map fun z => P.str (f z)) = (l.map f).contains x := by
  induction l with
  | nil => rfl
  | cons z l ih =>
    show ((f z == x) || inP (.str x) (l.map fun z => P.str (f z))) = _
    rw [ih, List.map_cons, List.contains_cons]
    congr 1
    rw [Bool.eq_iff_iff, beq_iff_eq, beq_iff_eq]
    exact eq_comm
theorem inP_ns {A : Type} {l : List A} {f : A → Nat} : inP (.int (a : Int)) (l.map fun z => P.int ((f z : Nat) : Int)) = (l.map f).contains a := by
  induction l with
  | nil => rfl
  | cons z l ih =>
    show (((f z : Nat) : Int) == (a : Int) || inP (.int (a : Int)) (l.map fun z => P.int ((f z : Nat) : Int))) = _
    rw [ih, List.map_cons, List.contains_cons]
    congr 1
    rw [Bool.eq_iff_iff, beq_iff_eq, beq_iff_eq]
    omega
theorem pIn2_of {p q : P} {t : Bool} (h : pIn p q = some (.bl t)) : pIn2 p q = some (.bl t) := by
  unfold pIn2
  rw [h]
theorem pNotIn2_of {p q : P} {t : Bool} (h : pIn p q = some (.bl t)) : pNotIn2 p q = some (.bl (!t)) := by
  unfold pNotIn2 pNotIn
  rw [h]
theorem pin_l {p : P} {xs : List P} (h : flatP p = true) (h2 : xs.all flatP = true) : pIn p (.lst xs) = some (.bl (inP p xs)) := by
  unfold pIn
  dsimp only
  rw [h, h2]
  rfl
theorem pin_t {p : P} {xs : List P} (h : flatP p = true) (h2 : xs.all flatP = true) : pIn p (.tup xs) = some (.bl (inP p xs)) := by
  unfold pIn
  dsimp only
  rw [h, h2]
  rfl
section
variable {A : Type} {l : List A} {f : A → List Nat} {g : A → Nat}
theorem op_inSL : pIn2 (.str x) (.lst (l.map fun z => P.str (f z))) = some (.bl ((l.map f).contains x)) := pIn2_of ((pin_l rfl (flat_map fun _ => rfl)).trans (by rw [inP_strs]))
theorem op_inST : pIn2 (.str x) (.tup (l.map fun z => P.str (f z))) = some (.bl ((l.map f).contains x)) := pIn2_of ((pin_t rfl (flat_map fun _ => rfl)).trans (by rw [inP_strs]))
theorem op_inNL : pIn2 (.int (a : Int)) (.lst (l.map fun z => P.int ((g z : Nat) : Int))) = some (.bl ((l.map g).contains a)) := pIn2_of ((pin_l rfl (flat_map fun _ => rfl)).trans (by rw [inP_ns]))
theorem op_niSL : pNotIn2 (.str x) (.lst (l.map fun z => P.str (f z))) = some (.bl (!(l.map f).contains x)) := pNotIn2_of ((pin_l rfl (flat_map fun _ => rfl)).trans (by rw [inP_strs]))
theorem op_niST : pNotIn2 (.str x) (.tup (l.map fun z => P.str (f z))) = some (.bl (!(l.map f).contains x)) := pNotIn2_of ((pin_t rfl (flat_map fun _ => rfl)).trans (by rw [inP_strs]))
theorem op_niNL : pNotIn2 (.int (a : Int)) (.lst (l.map fun z => P.int ((g z : Nat) : Int))) = some (.bl (!(l.map g).contains a)) := pNotIn2_of ((pin_l rfl (flat_map fun _ => rfl)).trans (by rw [inP_ns]))
end
theorem op_inSL' {l : List (List Nat)} : pIn2 (.str x) (.lst (l.map P.str)) = some (.bl (l.contains x)) := by
  have := op_inSL (x := x) (l := l) (f := id)
  rw [List.map_id] at this
  exact this
theorem op_inST' {l : List (List Nat)} : pIn2 (.str x) (.tup (l.map P.str)) = some (.bl (l.contains x)) := by
  have := op_inST (x := x) (l := l) (f := id)
  rw [List.map_id] at this
  exact this
theorem op_inNL' {l : List Nat} : pIn2 (.int (a : Int)) (.lst (l.map fun (z : Nat) => P.int (z : Int))) = some (.bl (l.contains a)) := by
  have := op_inNL (a := a) (l := l) (g := id)
  rw [List.map_id] at this
  exact this
theorem op_niSL' {l : List (List Nat)} : pNotIn2 (.str x) (.lst (l.map P.str)) = some (.bl (!l.contains x)) := by
  have := op_niSL (x := x) (l := l) (f := id)
  rw [List.map_id] at this
  exact this
theorem op_niST' {l : List (List Nat)} : pNotIn2 (.str x) (.tup (l.map P.str)) = some (.bl (!l.contains x)) := by
  have := op_niST (x := x) (l := l) (f := id)
  rw [List.map_id] at this
  exact this
theorem op_niNL' {l : List Nat} : pNotIn2 (.int (a : Int)) (.lst (l.map fun (z : Nat) => P.int (z : Int))) = some (.bl (!l.contains a)) := by
  have := op_niNL (a := a) (l := l) (g := id)
  rw [List.map_id] at this
  exact this

theorem op_lenL : pLen [.lst xs] = some (.int ((xs.length : Nat) : Int)) := rfl
theorem op_lenT : pLen [.tup xs] = some (.int ((xs.length : Nat) : Int)) := rfl
theorem op_lenLm {A : Type} {l : List A} {f : A → P} : pLen [.lst (l.map f)] = some (.int ((l.length : Nat) : Int)) := by
  rw [op_lenL, List.length_map]
theorem op_lenTm {A : Type} {l : List A} {f : A → P} : pLen [.tup (l.map f)] = some (.int ((l.length : Nat) : Int)) := by
  rw [op_lenT, List.length_map]
theorem op_lenS (h : x.length ≤ 100000) : pLen [.str x] = some (.int ((x.length : Nat) : Int)) := by
  rw [pLen_str, if_pos h]
theorem op_tupL : pTuple [.lst xs] = some (.tup xs) := rfl
theorem op_tupT : pTuple [.tup xs] = some (.tup xs) := rfl
theorem op_lstL : pList [.lst xs] = some (.lst xs) := rfl
theorem op_lstT : pList [.tup xs] = some (.lst xs) := rfl
theorem intsOf_m {A : Type} {l : List A} {f : A → Int} : intsOf (l.map fun z => P.int (f z)) = some (l.map f) := by
  induction l with
  | nil => rfl
  | cons a l ih =>
    show (intsOf (l.map fun z => P.int (f z))).map (f a :: ·) = _
    rw [ih]
    rfl
theorem blsOf_m {A : Type} {l : List A} {f : A → Bool} : blsOf (l.map fun z => P.bl (f z)) = some (l.map f) := by
  induction l with
  | nil => rfl
  | cons a l ih =>
    show (blsOf (l.map fun z => P.bl (f z))).map (f a :: ·) = _
    rw [ih]
    rfl
theorem sum_natm {A : Type} (l : List A) (f : A → Nat) : (l.map fun z => ((f z : Nat) : Int)).sum = (((l.map f).sum : Nat) : Int) := by
  induction l with
  | nil => rfl
  | cons a l ih =>
    rw [List.map_cons, List.sum_cons, ih, List.map_cons, List.sum_cons]
    omega
theorem op_sum {A : Type} {l : List A} {f : A → Nat} : pSum [.lst (l.map fun z => P.int ((f z : Nat) : Int))] = some (.int (((l.map f).sum : Nat) : Int)) := by
  show (intsOf (l.map fun z => P.int ((f z : Nat) : Int))).map _ = _
  rw [intsOf_m (f := fun z => ((f z : Nat) : Int))]
  show some (P.int _) = _
  rw [sum_natm]
theorem op_all {A : Type} {l : List A} {f : A → Bool} : pAll [.lst (l.map fun z => P.bl (f z))] = some (.bl (l.all f)) := by
  show (blsOf (l.map fun z => P.bl (f z))).map _ = _
  rw [blsOf_m]
  show some (P.bl ((l.map f).all id)) = _
  rw [List.all_map]
  rfl
theorem op_any {A : Type} {l : List A} {f : A → Bool} : pAny [.lst (l.map fun z => P.bl (f z))] = some (.bl (l.any f)) := by
  show (blsOf (l.map fun z => P.bl (f z))).map _ = _
  rw [blsOf_m]
  show some (P.bl ((l.map f).any id)) = _
  rw [List.any_map]
  rfl

theorem at_m0 {A : Type} {l : List A} {f : A → P} [Inhabited A] (h : a < l.length) : atI (l.map f) (a : Int) = some (f (l.getD a default)) := by
  refine atN ?_
  rw [List.getElem?_map, List.getElem?_eq_getElem h]
  simp [h]
theorem at_ms {A : Type} {l : List (List A)} {f : List A → P} (h : a < l.length) : atI (l.map f) (a : Int) = some (f (l.getD a [])) := at_m0 h
theorem at_mn {l : List Nat} {f : Nat → P} (h : a < l.length) : atI (l.map f) (a : Int) = some (f (l.getD a 0)) := at_m0 h
theorem ix_ls {A : Type} {l : List (List A)} {f : List A → P} (h : a < l.length) : pIx (.lst (l.map f)) (.int (a : Int)) = some (f (l.getD a [])) := at_ms h
theorem ix_ln {l : List Nat} {f : Nat → P} (h : a < l.length) : pIx (.lst (l.map f)) (.int (a : Int)) = some (f (l.getD a 0)) := at_mn h
theorem ix_lm {A : Type} {l : List A} {f : A → P} [Inhabited A] (h : a < l.length) : pIx (.lst (l.map f)) (.int (a : Int)) = some (f (l.getD a default)) := at_m0 h
theorem ix_ts {A : Type} {l : List (List A)} {f : List A → P} (h : a < l.length) : pIx (.tup (l.map f)) (.int (a : Int)) = some (f (l.getD a [])) := at_ms h
theorem ix_l0 : pIx (.lst (p :: xs)) (.int 0) = some p := atI_0 _ _
theorem ix_l1 {p2 : P} : pIx (.lst (p :: p2 :: xs)) (.int 1) = some p2 := atI_1 _ _ _
theorem ix_l2 {p2 p3 : P} : pIx (.lst (p :: p2 :: p3 :: xs)) (.int 2) = some p3 := atI_2 _ _ _ _
theorem atI_3 {A : Type} (x y z w : A) (xs : List A) : atI (x :: y :: z :: w :: xs) 3 = some w := atN (i := 3) rfl
theorem ix_l3 {p2 p3 p4 : P} : pIx (.lst (p :: p2 :: p3 :: p4 :: xs)) (.int 3) = some p4 := atI_3 _ _ _ _ _
theorem ix_t0 : pIx (.tup (p :: xs)) (.int 0) = some p := atI_0 _ _
theorem ix_t1 {p2 : P} : pIx (.tup (p :: p2 :: xs)) (.int 1) = some p2 := atI_1 _ _ _
theorem ix_t2 {p2 p3 : P} : pIx (.tup (p :: p2 :: p3 :: xs)) (.int 2) = some p3 := atI_2 _ _ _ _
theorem ix_t3 {p2 p3 p4 : P} : pIx (.tup (p :: p2 :: p3 :: p4 :: xs)) (.int 3) = some p4 := atI_3 _ _ _ _ _
theorem fr_p {S : Sto} : frz (.p p) S = .ok p S := frz_p _ _
end
mutual
theorem P.eqv_self : ∀ (x : P) (m : Nat), x.dat m = true → x.eqv x = true
  | .non, _, _ => rfl
  | .bl b, _, _ => by show (b == b) = true; simp
  | .int i, _, _ => by show (i == i) = true; simp
  | .str x, _, _ => by show (x == x) = true; simp
  | .lst xs, 0, h => by cases h
  | .lst xs, m + 1, h => eqvL_self xs m h
  | .tup xs, 0, h => by cases h
  | .tup xs, m + 1, h => eqvL_self xs m h
  | .dct _ _, _, h => by cases h
  | .obj _ _ _, _, h => by cases h
  | .ty _, _, h => by cases h
  | .glo _, _, h => by cases h
  | .raw _, _, h => by cases h
  | .rwp _ _, _, h => by cases h
  | .scr _, _, h => by cases h
theorem eqvL_self : ∀ (xs : List P) (m : Nat), datL xs m = true → eqvL xs xs = true
  | [], _, _ => rfl
  | x :: xs, m, h => by
    have h : (x.dat m && datL xs m) = true := h
    rw [Bool.and_eq_true] at h
    show (x.eqv x && eqvL xs xs) = true
    rw [P.eqv_self x m h.1, eqvL_self xs m h.2]
    rfl
end
theorem op_eqX {x : P} (h : x.dat 60 = true) : pEq x x = some (.bl true) := by
  rw [op_eqD h h, P.eqv_self x 60 h]
theorem op_neX {x : P} (h : x.dat 60 = true) : pNe x x = some (.bl false) := by
  rw [op_neD h h, P.eqv_self x 60 h]
  rfl
end Mir

namespace Mir
open PySem L2
def WS (r : RF) (Q : Fl → Sto → Prop) : Prop := ∃ f S, r = .ok f S ∧ Q f S
section
variable {ρ ρ1 ρ2 : En} {S S1 S2 S3 : Sto} {a b c : ME} {t u : MT} {m r : MA} {s s' : MS} {x y z w : P} {d e v : Vl} {ds es : List Vl} {xs ys : List P} {Q : Fl → Sto → Prop}
theorem ws_of {f : Fl} (h : s ρ S = .ok f S1) (q : Q f S1) : WS (s ρ S) Q := ⟨f, S1, h, q⟩
theorem ws_seq (h : s ρ S = .ok (.nx ρ1) S1) (q : WS (s' ρ1 S1) Q) : WS (sSeq s s' ρ S) Q := by
  obtain ⟨f, S2, e, q⟩ := q
  exact ⟨f, S2, ev_seq h (thn_n e), q⟩
theorem ws_seqW (h : WS (s ρ S) fun f S1 => ∃ ρ1, f = .nx ρ1 ∧ WS (s' ρ1 S1) Q) : WS (sSeq s s' ρ S) Q := by
  obtain ⟨f, S1, e1, ρ1, rfl, f, S2, e, q⟩ := h
  exact ⟨f, S2, ev_seq e1 (thn_n e), q⟩
theorem ws_for {it : MI} {g : MG} (I : Nat → En → Sto → Prop) (hi : it ρ S = .ok xs S1) (h0 : I 0 ρ S1)
    (hs : ∀ i x ρ S, xs[i]? = some x → I i ρ S → ∃ ρ1 S1, g (.p x) ρ S = .ok ρ1 S1 ∧ WS (s ρ1 S1) fun f S2 => ∃ ρ2, (f = .nx ρ2 ∨ f = .ct ρ2) ∧ I (i + 1) ρ2 S2)
    (hq : ∀ ρ' S', I xs.length ρ' S' → Q (.nx ρ') S') : WS (sFor it g s ρ S) Q := by
  have key : ∀ (zs : List P) (k : Nat) (ρ : En) (S : Sto), xs.drop k = zs → I k ρ S → ∃ ρ' S', forGo g s zs ρ S = .ok (.nx ρ') S' ∧ I (k + zs.length) ρ' S' := by
    intro zs
    induction zs with
    | nil => exact fun k ρ S _ h => ⟨ρ, S, rfl, h⟩
    | cons z zs ih =>
      intro k ρ S hd h
      have hz : xs[k]? = some z := by
        have := congrArg (fun l : List P => l[0]?) hd
        simpa using this
      have hd2 : xs.drop (k + 1) = zs := by
        rw [← List.drop_drop, hd]
        rfl
      obtain ⟨ρ1, S1, e1, f, S2, e2, ρ2, e3, h2⟩ := hs k z ρ S hz h
      obtain ⟨ρ', S', e4, h4⟩ := ih (k + 1) ρ2 S2 hd2 h2
      refine ⟨ρ', S', ?_, by rw [List.length_cons, show k + (zs.length + 1) = k + 1 + zs.length by omega]; exact h4⟩
      rw [forGo_cons, e1, nox_ok, go_ok, e2]
      rcases e3 with rfl | rfl <;> exact e4
  obtain ⟨ρ', S', e, h⟩ := key xs 0 ρ S1 rfl h0
  rw [Nat.zero_add] at h
  exact ⟨.nx ρ', S', by rw [sFor_eq, hi, go_ok, e], hq ρ' S' h⟩
theorem ws_forM {A : Type} {it : MI} {g : MG} {us : List A} {en : A → P} (I : Nat → En → Sto → Prop) (hi : it ρ S = .ok (us.map en) S1) (h0 : I 0 ρ S1)
    (hs : ∀ i u ρ S, us[i]? = some u → I i ρ S → ∃ ρ1 S1, g (.p (en u)) ρ S = .ok ρ1 S1 ∧ WS (s ρ1 S1) fun f S2 => ∃ ρ2, (f = .nx ρ2 ∨ f = .ct ρ2) ∧ I (i + 1) ρ2 S2)
    (hq : ∀ ρ' S', I us.length ρ' S' → Q (.nx ρ') S') : WS (sFor it g s ρ S) Q := by
  refine ws_for I hi h0 (fun i x ρ S hx hI => ?_) fun ρ' S' h => hq ρ' S' (by rw [List.length_map] at h; exact h)
  rw [List.getElem?_map] at hx
  cases hu : us[i]? with
  | none => rw [hu] at hx; cases hx
  | some u =>
    rw [hu] at hx
    cases hx
    exact hs i u ρ S hu hI
theorem ws_mkF {n k : Nat} {body : MS} {R : Vl → Sto → Prop} (hl : ds.length = n) (hρ : ds.map some ++ List.replicate k none = ρ) (h : WS (body ρ S) fun f S1 => ∃ v S', endF S.length (.ok f S1) = .ok v S' ∧ R v S') : ∃ v S', mkF n k body ds S = .ok v S' ∧ R v S' := by
  obtain ⟨f, S1, e, v, S', e2, r⟩ := h
  exact ⟨v, S', ev_mkF hl hρ e e2, r⟩
theorem ws_mkFe {n k : Nat} {body : MS} {o : Res Vl} (hl : ds.length = n) (hρ : ds.map some ++ List.replicate k none = ρ) (h : WS (body ρ S) fun f S1 => endF S.length (.ok f S1) = o) : mkF n k body ds S = o := by
  obtain ⟨f, S1, e, e2⟩ := h
  exact ev_mkF hl hρ e e2
end
end Mir

namespace Mir
open PySem L2
section
variable {ρ ρ0 ρ1 ρ2 : En} {S S1 S2 S3 : Sto} {a b c : ME} {t u : MT} {m r : MA} {s s' : MS} {x y z w : P} {d e v : Vl} {ds es : List Vl} {xs ys : List P}
theorem rng_1 : itRange1 (eC (.int 1)) ρ S = .ok [.int 0] S := rfl
theorem rng_2 : itRange1 (eC (.int 2)) ρ S = .ok [.int 0, .int 1] S := rfl
theorem rng_3 : itRange1 (eC (.int 3)) ρ S = .ok [.int 0, .int 1, .int 2] S := rfl
theorem rng_4 : itRange1 (eC (.int 4)) ρ S = .ok [.int 0, .int 1, .int 2, .int 3] S := rfl
theorem rng_5 : itRange1 (eC (.int 5)) ρ S = .ok [.int 0, .int 1, .int 2, .int 3, .int 4] S := rfl
theorem rng_6 : itRange1 (eC (.int 6)) ρ S = .ok [.int 0, .int 1, .int 2, .int 3, .int 4, .int 5] S := rfl
theorem rng_8 : itRange1 (eC (.int 8)) ρ S = .ok [.int 0, .int 1, .int 2, .int 3, .int 4, .int 5, .int 6, .int 7] S := rfl
theorem lcx_s {g : MG} {q : Bool} (hg : g (.p x) ρ S = .ok ρ1 S) (ht : t ρ1 S = .ok q S) (ha : q = true → a ρ1 S = .ok (.p y) S) (hr : lcGo g t a ρ xs S = .ok ys S) : lcGo g t a ρ (x :: xs) S = .ok ((if q then [y] else []) ++ ys) S := by
  cases q with
  | false =>
    unfold lcGo
    rw [hg, nox_ok, bind_ok, ht, nox_ok, bind_ok]
    exact hr
  | true =>
    unfold lcGo
    rw [hg, nox_ok, bind_ok, ht, nox_ok, bind_ok]
    dsimp only
    rw [ha rfl, nox_ok, bind_ok, frz_p, bind_ok, hr, bind_ok]
    rfl

theorem ev_forx {it : MI} {g : MG} {o : RF} (hi : it ρ S = .ok xs S1) (hg : forGo g s xs ρ S1 = o) : sFor it g s ρ S = o := by
  rw [sFor_eq, hi, go_ok, hg]
theorem forx_nil {g : MG} : forGo g s [] ρ S = .ok (.nx ρ) S := rfl
theorem forx_cons {g : MG} {o : RF} (hg : g (.p x) ρ S = .ok ρ1 S1) (hs : s ρ1 S1 = .ok (.nx ρ2) S2) (hr : forGo g s xs ρ2 S2 = o) : forGo g s (x :: xs) ρ S = o := by
  rw [forGo_cons, hg, nox_ok, go_ok, hs]
  exact hr
theorem ev_enumN {ls : List Nat} {f : Nat → P} (ha : a ρ S = .ok (.p (.lst (ls.map f))) S1) : itEnum a ρ S = .ok ((List.range ls.length).map fun (i : Nat) => P.tup [.int (i : Int), f (ls.getD i 0)]) S1 := ev_enum_map ha
theorem ev_enumS {B : Type} {ls : List (List B)} {f : List B → P} (ha : a ρ S = .ok (.p (.lst (ls.map f))) S1) : itEnum a ρ S = .ok ((List.range ls.length).map fun (i : Nat) => P.tup [.int (i : Int), f (ls.getD i [])]) S1 := ev_enum_map ha
theorem isi_t {cs : List PySem.Str} {T : Tg} (h : isT cs T y = some true) : isT cs T y = some true := h
theorem isi_f {cs : List PySem.Str} {T : Tg} (h : isT cs T y = some false) : isT cs T y = some false := h

theorem lcGo2_gen {A B : Type} {g : MG} {it1 : MI} {vs1 : List Nat} {g1 : MG} {t1 : MT} {en : A → P} {q : A → Bool} {ρ1 : A → En} {us : A → List B} {en1 : A → B → P} {ρ1' : A → En} {ρ2 : A → B → En} {q1 : A → B → Bool} {f : A → B → P} : ∀ (ls : List A),
    (∀ y ∈ ls, g (.p (en y)) ρ0 S = .ok (ρ1 y) S) → (∀ y ∈ ls, t (ρ1 y) S = .ok (q y) S) → (∀ y ∈ ls, q y = true → it1 (ρ1 y) S = .ok ((us y).map (en1 y)) S) → (∀ y ∈ ls, q y = true → (us y).length ≤ 4000) → (∀ y ∈ ls, wipeE (ρ1 y) vs1 = ρ1' y) →
    (∀ y ∈ ls, q y = true → ∀ z ∈ us y, g1 (.p (en1 y z)) (ρ1' y) S = .ok (ρ2 y z) S) → (∀ y ∈ ls, q y = true → ∀ z ∈ us y, t1 (ρ2 y z) S = .ok (q1 y z) S) → (∀ y ∈ ls, q y = true → ∀ z ∈ us y, q1 y z = true → a (ρ2 y z) S = .ok (.p (f y z)) S) →
    lcGo2 g t it1 vs1 g1 t1 a ρ0 (ls.map en) S = .ok ((ls.filter q).flatMap fun y => ((us y).filter (q1 y)).map (f y)) S
  | [], _, _, _, _, _, _, _, _ => rfl
  | y :: ls, h1, h2, h3, h4, h5, h6, h7, h8 => by
    have m0 : y ∈ y :: ls := List.mem_cons_self
    have ih := lcGo2_gen ls (fun z hz => h1 z (List.mem_cons_of_mem _ hz)) (fun z hz => h2 z (List.mem_cons_of_mem _ hz)) (fun z hz => h3 z (List.mem_cons_of_mem _ hz)) (fun z hz => h4 z (List.mem_cons_of_mem _ hz)) (fun z hz => h5 z (List.mem_cons_of_mem _ hz)) (fun z hz => h6 z (List.mem_cons_of_mem _ hz)) (fun z hz => h7 z (List.mem_cons_of_mem _ hz)) (fun z hz => h8 z (List.mem_cons_of_mem _ hz))
    rw [List.map_cons]
    unfold lcGo2
    rw [h1 y m0, nox_ok, bind_ok, h2 y m0, nox_ok, bind_ok]
    cases hq : q y with
    | false =>
      dsimp only
      rw [ih, List.filter_cons_of_neg (by rw [hq]; decide)]
    | true =>
      dsimp only
      rw [h3 y m0 hq, nox_ok, bind_ok, if_pos (by rw [List.length_map]; exact h4 y m0 hq), h5 y m0]
      rw [lcGo_gen (en1 y) (q1 y) (f y) (us y) fun z hz => ⟨ρ2 y z, h6 y m0 hq z hz, h7 y m0 hq z hz, h8 y m0 hq z hz⟩, bind_ok, ih, bind_ok, List.filter_cons_of_pos hq, List.flatMap_cons]
theorem ev_lc2 {A B : Type} {it : MI} {vs : List Nat} {g : MG} {it1 : MI} {vs1 : List Nat} {g1 : MG} {ls : List A} {en : A → P} {ρ1 : A → En} {us : A → List B} {en1 : A → B → P} {ρ1' : A → En} {ρ2 : A → B → En} {f : A → B → P} (hi : it ρ S = .ok (ls.map en) S1) (hl : ls.length ≤ 4000) (hw : wipeE ρ vs = ρ0)
    (hg : ∀ y, y ∈ ls → g (.p (en y)) ρ0 S1 = .ok (ρ1 y) S1) (hi1 : ∀ y, y ∈ ls → it1 (ρ1 y) S1 = .ok ((us y).map (en1 y)) S1) (hl1 : ∀ y, y ∈ ls → (us y).length ≤ 4000) (hw1 : ∀ y, y ∈ ls → wipeE (ρ1 y) vs1 = ρ1' y)
    (hg1 : ∀ y, y ∈ ls → ∀ z, z ∈ us y → g1 (.p (en1 y z)) (ρ1' y) S1 = .ok (ρ2 y z) S1) (he : ∀ y, y ∈ ls → ∀ z, z ∈ us y → a (ρ2 y z) S1 = .ok (.p (f y z)) S1) :
    eLc2 it vs g tsYes it1 vs1 g1 tsYes a ρ S = .ok (.p (.lst (ls.flatMap fun y => (us y).map (f y)))) S1 := by
  subst hw
  unfold eLc2
  rw [hi, bind_ok, if_pos (by rw [List.length_map]; exact hl)]
  have := lcGo2_gen (a := a) (t := tsYes) (t1 := tsYes) (q := fun _ => true) (q1 := fun _ _ => true) (it1 := it1) (vs1 := vs1) ls (fun y hy => hg y hy) (fun y hy => rfl) (fun y hy _ => hi1 y hy) (fun y hy _ => hl1 y hy) hw1 (fun y hy _ z hz => hg1 y hy z hz) (fun y hy _ z hz => rfl) (fun y hy _ z hz _ => he y hy z hz)
  rw [this, bind_ok]
  have e1 : ls.filter (fun _ => true) = ls := List.filter_eq_self.mpr fun _ _ => rfl
  have e2 : ∀ y, (us y).filter (fun _ => true) = us y := fun y => List.filter_eq_self.mpr fun _ _ => rfl
  simp only [e1, e2]
end
section
variable {p q : Bool} {x : P} {a : Nat} {xs : List P}
theorem op_eqB : pEq (.bl p) (.bl q) = some (.bl (p == q)) := rfl
theorem op_neB : pNe (.bl p) (.bl q) = some (.bl (!(p == q))) := rfl
theorem op_niB {A : Type} {l : List A} {f : A → Bool} : pNotIn2 (.bl false) (.lst (l.map fun z => P.bl (f z))) = some (.bl (l.all f)) := by
  have h : ∀ l : List A, inP (.bl false) (l.map fun z => P.bl (f z)) = !(l.all f) := by
    intro l
    induction l with
    | nil => rfl
    | cons z l ih =>
      show ((f z == false) || inP (.bl false) (l.map fun z => P.bl (f z))) = _
      rw [ih, List.all_cons]
      cases f z <;> rfl
  rw [pNotIn2_of (t := !(l.all f)) ((pin_l rfl (flat_map fun _ => rfl)).trans (by rw [h])), Bool.not_not]
theorem op_all2 {A B : Type} {l : List A} {us : A → List B} {f : A → B → Bool} : pAll [.lst (l.flatMap fun y => (us y).map fun z => P.bl (f y z))] = some (.bl (l.all fun y => (us y).all (f y))) := by
  have e : (l.flatMap fun y => (us y).map fun z => P.bl (f y z)) = (l.flatMap fun y => (us y).map (f y)).map P.bl := by
    rw [List.map_flatMap]
    simp [List.map_map, Function.comp_def]
  rw [e]
  have := op_all (l := l.flatMap fun y => (us y).map (f y)) (f := fun b => b)
  rw [this]
  congr 2
  rw [List.all_flatMap]
  simp [List.all_map, Function.comp_def]
theorem ix_l4 {p1 p2 p3 p4 p5 : P} : pIx (.lst (p1 :: p2 :: p3 :: p4 :: p5 :: xs)) (.int 4) = some p5 := atN (i := 4) rfl
theorem ix_l5 {p1 p2 p3 p4 p5 p6 : P} : pIx (.lst (p1 :: p2 :: p3 :: p4 :: p5 :: p6 :: xs)) (.int 5) = some p6 := atN (i := 5) rfl
theorem eqc_t {x y : P} (h : pEq x y = some (.bl true)) : pEq x y = some (.bl true) := h
theorem eqc_f {x y : P} (h : pEq x y = some (.bl false)) : pEq x y = some (.bl false) := h
theorem nec_t {x y : P} (h : pNe x y = some (.bl true)) : pNe x y = some (.bl true) := h
theorem nec_f {x y : P} (h : pNe x y = some (.bl false)) : pNe x y = some (.bl false) := h
theorem inc_t {x y : P} (h : pIn2 x y = some (.bl true)) : pIn2 x y = some (.bl true) := h
theorem inc_f {x y : P} (h : pIn2 x y = some (.bl false)) : pIn2 x y = some (.bl false) := h
theorem nic_t {x y : P} (h : pNotIn2 x y = some (.bl true)) : pNotIn2 x y = some (.bl true) := h
theorem nic_f {x y : P} (h : pNotIn2 x y = some (.bl false)) : pNotIn2 x y = some (.bl false) := h
theorem op_is {a b : Bool} : pIs (.bl a) (.bl b) = some (.bl (decide (a = b))) := rfl
theorem op_isNot {a b : Bool} : pIsNot (.bl a) (.bl b) = some (.bl (!decide (a = b))) := rfl
theorem ev_rgL {ρ : En} {S S1 : Sto} {m : ME} {n : Nat} (h : m ρ S = .ok (.p (.int (n : Int))) S1) (hn : n ≤ 100000) : eRgL m ρ S = .ok (.p (.lst ((List.range n).map fun (k : Nat) => P.int (k : Int)))) S1 := by
  unfold eRgL
  rw [h, bind_ok]
  dsimp only
  rw [if_pos ⟨by omega, by omega⟩, Int.toNat_natCast, rangeP_0]
end
end Mir

namespace Mir
open PySem L2
section
variable {a b : Nat} {x p : P} {xs : List P} {i : Int}
theorem op_sub1 (h : 1 ≤ a) : pI (fun i j => i - j) (.int (a : Int)) (.int 1) = some (.int ((a - 1 : Nat) : Int)) := by
  rw [pI_int]
  congr 2
  omega
theorem op_subN (h : b ≤ a) : pI (fun i j => i - j) (.int (a : Int)) (.int (b : Int)) = some (.int ((a - b : Nat) : Int)) := by
  rw [pI_int]
  congr 2
  omega
theorem op_modN (h : 0 < b) : pIC bMod (fun i j => i % j) (.int (a : Int)) (.int (b : Int)) = some (.int ((a % b : Nat) : Int)) := by
  have : bMod (a : Int) (b : Int) = true := bMod_of (by omega)
  rw [pIC_int, this, if_pos rfl, Int.natCast_emod]
theorem op_int : pInt [.int i] = some (.int i) := rfl
theorem op_neg1 : pNeg (.int 1) = some (.int (-1)) := rfl
theorem op_neg : pNeg (.int i) = some (.int (-i)) := rfl
theorem op_mul2 : pMul (.lst [x]) (.int 2) = some (.lst [x, x]) := rfl
theorem op_eqL1 {l : List Nat} : pEq (.lst (l.map fun (e : Nat) => P.int (e : Int))) (.lst [.int (a : Int)]) = some (.bl (l == [a])) := by
  rw [op_eqD (p := .lst (l.map fun (e : Nat) => P.int (e : Int))) (q := .lst [.int (a : Int)]) (datL_of fun _ _ => rfl) rfl]
  show some (P.bl (eqvL (l.map fun (e : Nat) => P.int (e : Int)) ([a].map fun (e : Nat) => P.int (e : Int)))) = _
  rw [eqvL_num]
theorem cutP_init {A : Type} (l : List A) : cutP l none (some (-1)) = l.dropLast := by
  unfold cutP
  have e0 : HT.sIx l.length 0 none = 0 := rfl
  have e1 : HT.sIx l.length l.length (some (-1)) = l.length - 1 := by
    unfold HT.sIx
    simp
    omega
  rw [e0, e1, List.drop_zero, Nat.sub_zero, List.dropLast_eq_take]
theorem op_init {A : Type} {l : List A} {f : A → P} : pSl none (some (-1)) (.lst (l.map f)) = some (.lst ((l.dropLast).map f)) := by
  show some (P.lst (cutP (l.map f) none (some (-1)))) = _
  rw [cutP_init, List.map_dropLast]
end
end Mir

namespace Mir
open PySem L2
mutual
def P.sz : P → Nat
  | .non => 4
  | .bl _ => 5
  | .int i => (Str.ofString (toString i)).length
  | .str x => 10 * x.length + 2
  | .lst xs => szL xs + 4
  | .tup xs => szL xs + 4
  | _ => 4
def szL : List P → Nat
  | [] => 0
  | x :: xs => x.sz + 2 + szL xs
end
theorem join_len (s : Str) : ∀ ts : List Str, (s.join ts).length ≤ (ts.map fun t => t.length + s.length).sum
  | [] => by
    rw [Str.join.eq_1]
    exact Nat.zero_le _
  | [t] => by
    rw [Str.join.eq_2]
    simp
  | t :: u :: r => by
    have ih := join_len s (u :: r)
    rw [Str.join.eq_3]
    · rw [List.map_cons, List.sum_cons]
      simp only [Str.length_append]
      omega
    all_goals simp
theorem listText_le (ts : List Str) : (listText ts).length ≤ (ts.map fun t => t.length + 2).sum + 4 := by
  have h := join_len (Str.ofString ", ") ts
  have e : (Str.ofString ", ").length = 2 := by decide
  have e1 : (Str.ofString "[").length = 1 := by decide
  have e2 : (Str.ofString "]").length = 1 := by decide
  rw [listText_eq_join]
  simp only [Str.length_append, e, e1, e2] at h ⊢
  omega
theorem tupleText_le (ts : List Str) : (tupleText ts).length ≤ (ts.map fun t => t.length + 2).sum + 4 := by
  have h := join_len (Str.ofString ", ") ts
  have e : (Str.ofString ", ").length = 2 := by decide
  have e1 : (Str.ofString "(").length = 1 := by decide
  have e2 : (Str.ofString (if (ts.length == 1) = true then ",)" else ")")).length ≤ 2 := by
    split <;> decide
  unfold tupleText
  simp only [Str.length_append, e, e1] at h ⊢
  omega
mutual
theorem shown_len : ∀ (x : P) (m : Nat), x.dat m = true → x.toD.shown.length ≤ x.sz
  | .non, m, _ => by show (Str.ofString "None").length ≤ 4; decide
  | .bl b, m, _ => by
    show (if b = true then Str.ofString "True" else Str.ofString "False").length ≤ 5
    cases b <;> decide
  | .int i, m, _ => by
    show (PyData.int i).shown.length ≤ _
    rw [PyData.shown.eq_3]
    exact Nat.le_refl _
  | .str x, m, h => by
    have h : (x.all fun c => decide (c < 128)) = true := h
    show (PyData.str (strOf x)).shown.length ≤ 10 * x.length + 2
    rw [PyData.shown.eq_4]
    have := StrLaws.reprText_len (strOf x) fun c hc => by
      have hc : c ∈ x := by simpa [strOf] using hc
      have := of_decide_eq_true (List.all_eq_true.mp h c hc)
      exact Nat.lt_of_lt_of_le this (by decide)
    have e : (strOf x).length = x.length := by simp [strOf, Str.length]
    rw [e] at this
    exact this
  | .lst xs, 0, h => by cases h
  | .lst xs, m + 1, h => by
    show (PyData.list (toDL xs)).shown.length ≤ szL xs + 4
    rw [PyData.shown.eq_5]
    have := listText_le (PyData.shownAll (toDL xs))
    have := shownL_len xs m h
    omega
  | .tup xs, 0, h => by cases h
  | .tup xs, m + 1, h => by
    show (PyData.tuple (toDL xs)).shown.length ≤ szL xs + 4
    rw [PyData.shown.eq_6]
    have := tupleText_le (PyData.shownAll (toDL xs))
    have := shownL_len xs m h
    omega
  | .dct _ _, m, h => by cases h
  | .obj _ _ _, m, h => by cases h
  | .ty _, m, h => by cases h
  | .glo _, m, h => by cases h
  | .raw _, m, h => by cases h
  | .rwp _ _, m, h => by cases h
  | .scr _, m, h => by cases h
theorem shownL_len : ∀ (xs : List P) (m : Nat), datL xs m = true → ((PyData.shownAll (toDL xs)).map fun t => t.length + 2).sum ≤ szL xs
  | [], m, _ => by
    show ((PyData.shownAll []).map fun t => t.length + 2).sum ≤ 0
    rw [PyData.shownAll.eq_1]
    exact Nat.le_refl _
  | x :: xs, m, h => by
    have h : (x.dat m && datL xs m) = true := h
    rw [Bool.and_eq_true] at h
    have h1 := shown_len x m h.1
    have h2 := shownL_len xs m h.2
    show ((PyData.shownAll (x.toD :: toDL xs)).map fun t => t.length + 2).sum ≤ x.sz + 2 + szL xs
    rw [PyData.shownAll.eq_2, List.map_cons, List.sum_cons]
    omega
end
theorem reprP_len {x : P} (h : x.dat 60 = true) : (reprP x).length ≤ x.sz := by
  have := shown_len x 60 h
  have e : (reprP x).length = x.toD.shown.length := by
    unfold reprP
    rw [Array.length_toList]
    rfl
  rw [e]
  exact this
theorem szL_map {A : Type} {f : A → P} {c : Nat} : ∀ {l : List A}, (∀ x ∈ l, (f x).sz ≤ c) → szL (l.map f) ≤ l.length * (c + 2)
  | [], _ => Nat.zero_le _
  | a :: l, h => by
    have h1 := h a List.mem_cons_self
    have h2 := szL_map (f := f) (l := l) fun x hx => h x (List.mem_cons_of_mem _ hx)
    show (f a).sz + 2 + szL (l.map f) ≤ _
    rw [List.length_cons, Nat.add_mul]
    omega
theorem op_reprL {xs : List P} (h : (P.lst xs).dat 60 = true) (h2 : (P.lst xs).toD.showable = true) (h3 : (P.lst xs).sz ≤ 100000) : pRepr [.lst xs] = some (.str (reprP (.lst xs))) := by
  unfold pRepr
  dsimp only
  rw [h, h2]
  have := reprP_len h
  rw [if_pos (by rw [decide_eq_true (Nat.le_trans this h3)]; rfl)]
def Sm (s : Str) : Prop := ∀ c ∈ s.cps.toList, c < 128
theorem Sm.app {s t : Str} (h : Sm s) (h' : Sm t) : Sm (s ++ t) := fun c hc => by
  have e : (s ++ t).cps = s.cps ++ t.cps := rfl
  rw [e, Array.toList_append, List.mem_append] at hc
  exact hc.elim (h c) (h' c)
theorem Sm.join {s : Str} (h : Sm s) : ∀ {ts : List Str}, (∀ t ∈ ts, Sm t) → Sm (s.join ts)
  | [], _ => by
    rw [Str.join.eq_1]
    intro c hc
    cases hc
  | [t], h' => by
    rw [Str.join.eq_2]
    exact h' t List.mem_cons_self
  | t :: u :: r, h' => by
    rw [Str.join.eq_3 _ _ _ (by simp)]
    exact ((h' t List.mem_cons_self).app h).app (Sm.join h fun x hx => h' x (List.mem_cons_of_mem _ hx))
end Mir

namespace Mir
open PySem L2
end Mir

namespace Mir
open PySem L2
section
variable {ρ ρ1 ρ2 : En} {S S1 S2 S3 S4 : Sto} {a b o i v : ME} {m r : MA} {t : MT} {s : MS} {x y z : P} {d e : Vl} {ds es : List Vl} {xs ys : List P}
theorem ev_tupT (hm : m ρ S = .ok ds S1) (hf : frzs ds S1 = .ok xs S2) (hl : xs.length ≤ 100000) : eTupT m ρ S = .ok (.c S2.length) (S2 ++ [.tup xs]) := by
  unfold eTupT
  rw [hm, bind_ok, hf, bind_ok, if_pos hl]
theorem ev_notInT {q q' : Bool} (ha : a ρ S = .ok d S1) (hb : b ρ S1 = .ok e S2) (h : dHas S2 d e = some q) (hn : (!q) = q') : eNotInT a b ρ S = .ok (.p (.bl q')) S2 := by
  unfold eNotInT
  rw [ha, bind_ok, hb, bind_ok, h]
  dsimp only
  rw [hn]
theorem ev_itemT (ho : o ρ S = .ok e S1) (hi : i ρ S1 = .ok d S2) (h : dAt S2 d e = some x) : eItemT o i ρ S = .ok (.p x) S2 := by
  unfold eItemT
  rw [ho, bind_ok, hi, bind_ok, h]
theorem ev_putT (hv : v ρ S = .ok (.p x) S1) (ho : o ρ S1 = .ok e S2) (hi : i ρ S2 = .ok d S3) (h : dPut S3 d e x = some S4) : sPutT v o i ρ S = .ok (.nx ρ) S4 := by
  unfold sPutT
  rw [hv, go_ok, ho, go_ok, hi, go_ok, frz_p, go_ok, h]
theorem ev_astar (hm : a ρ S = .ok d S1) (hd : rd S1 d = some (.tup xs)) (hr : r ρ S1 = .ok ds S2) : aStar a r ρ S = .ok (xs.map Vl.p ++ ds) S2 := by
  unfold aStar
  rw [hm, bind_ok, hd]
  dsimp only
  rw [hr, bind_ok]
theorem app_p {k : Nat} (h : S[k]? = some (.lst xs)) (hl : xs.length < 100000) : fApp (.c k) [.p z] S = .ok (.p .non) (S.set k (.lst (xs ++ [z]))) := by
  unfold fApp
  dsimp only
  rw [h]
  dsimp only
  rw [frz_p, bind_ok]
  rw [h]
  dsimp only
  rw [if_pos hl]
theorem frz_tup {k : Nat} (h : S[k]? = some (.tup ys)) : frz (.c k) S = .ok (.tup ys) S := by
  unfold frz frzN
  dsimp only
  rw [h]
theorem app_t {k j : Nat} (h : S[k]? = some (.lst xs)) (hj : S[j]? = some (.tup ys)) (hl : xs.length < 100000) : fApp (.c k) [.c j] S = .ok (.p .non) (S.set k (.lst (xs ++ [.tup ys]))) := by
  unfold fApp
  dsimp only
  rw [h]
  dsimp only
  rw [frz_tup hj, bind_ok]
  rw [h]
  dsimp only
  rw [if_pos hl]
theorem pop_l {k : Nat} (h : S[k]? = some (.lst (xs ++ [z]))) : fPop (.c k) [] S = .ok (.p z) (S.set k (.lst xs)) := by
  unfold fPop
  dsimp only
  rw [h]
  dsimp only
  have e : (xs ++ [z])[(xs ++ [z]).length - 1]? = some z := by simp
  rw [e]
  dsimp only
  rw [List.dropLast_concat]
theorem isL_c {k : Nat} (h : S[k]? = some (.lst xs)) : isL S (.c k) = true := by
  unfold isL
  dsimp only
  rw [h]
theorem ixN_last (n : Nat) : ixN (n + 1) (-1) = some n := by
  unfold ixN
  rw [if_neg (by decide), if_pos (by omega)]
  congr 1
  omega
theorem at_last {A : Type} {xs : List A} {z : A} : atI (xs ++ [z]) (-1) = some z := by
  unfold atI
  have e : (xs ++ [z]).length = xs.length + 1 := by simp
  rw [e, ixN_last]
  simp
theorem setV_last {k : Nat} {w : P} (h : S[k]? = some (.lst (xs ++ [z]))) : setV (.c k) (.p (.int (-1))) (.p w) S = .ok () (S.set k (.lst (xs ++ [w]))) := by
  unfold setV
  dsimp only
  rw [h]
  dsimp only
  rw [frz_p, bind_ok]
  rw [h]
  dsimp only
  have e : (xs ++ [z]).length = xs.length + 1 := by simp
  rw [e, ixN_last]
  dsimp only
  rw [List.set_append_right _ _ (Nat.le_refl _), Nat.sub_self, List.set_cons_zero]
theorem wh_end {n : Nat} (h : t ρ S = .ok false S1) : whGo t s (n + 1) ρ S = .ok (.nx ρ) S1 := by
  unfold whGo
  rw [h, go_ok]
theorem wh_ret {n : Nat} (h : t ρ S = .ok true S1) (hs : s ρ S1 = .ok (.rt d) S2) : whGo t s (n + 1) ρ S = .ok (.rt d) S2 := by
  unfold whGo
  rw [h, go_ok]
  dsimp only
  rw [hs]
theorem wh_step {n : Nat} (h : t ρ S = .ok true S1) (hs : s ρ S1 = .ok (.nx ρ1) S2) : whGo t s (n + 1) ρ S = whGo t s n ρ1 S2 := by
  conv => lhs; unfold whGo
  rw [h, go_ok]
  dsimp only
  rw [hs]
end
end Mir

namespace Mir
open PySem L2
section
variable {ρ : En} {S S1 S2 S3 : Sto} {a b : ME} {m : MA} {d e v : Vl} {ds : List Vl} {c : PySem.Str} {g : MF} {y : List Nat} {q : Bool}
end
end Mir

namespace Pl
open Mir
abbrev Row := Nat × List Nat
def rwPs (r : Row) : List P := .str [r.1] :: nums r.2
def rwP (r : Row) : P := .tup (rwPs r)
def rwK (r : Row) : List (Int ⊕ List Nat) := .inr [r.1] :: r.2.map fun (n : Nat) => .inl (n : Int)
theorem kys_nums : ∀ l : List Nat, kysOf (nums l) = some (l.map fun (n : Nat) => .inl (n : Int))
  | [] => rfl
  | n :: l => by
    have ih := kys_nums l
    show ((kyOf (.int (n : Int))).bind fun a => (kysOf (nums l)).map (a :: ·)) = _
    rw [ih]
    rfl
theorem kys_row (r : Row) : kysOf (rwPs r) = some (rwK r) := by
  show ((kyOf (.str [r.1])).bind fun a => (kysOf (nums r.2)).map (a :: ·)) = _
  rw [kys_nums]
  rfl
theorem inls_inj : ∀ {l m : List Nat}, (l.map fun (n : Nat) => (Sum.inl (n : Int) : Int ⊕ List Nat)) = (m.map fun (n : Nat) => .inl (n : Int)) → l = m
  | [], [], _ => rfl
  | [], _ :: _, h => by cases h
  | _ :: _, [], h => by cases h
  | a :: l, b :: m, h => by
    rw [List.map_cons, List.map_cons] at h
    obtain ⟨h1, h2⟩ := List.cons.inj h
    have h1 := Sum.inl.inj h1
    have h1 : a = b := by omega
    rw [h1, inls_inj h2]
theorem rwK_inj {r r' : Row} (h : rwK r = rwK r') : r = r' := by
  obtain ⟨s, l⟩ := r
  obtain ⟨s', l'⟩ := r'
  obtain ⟨h1, h2⟩ := List.cons.inj h
  have h1 := Sum.inr.inj h1
  have h1 : s = s' := (List.cons.inj h1).1
  have h2 : l = l' := inls_inj h2
  rw [h1, h2]
def numL (L : List Row) (r : Row) : List Row := if r ∈ L then L else L ++ [r]
theorem atKy_row (r : Row) : ∀ (L : List Row) (b : Nat), atKy (rwK r) (L.map rwK) ((List.range' b L.length).map fun (n : Nat) => P.int (n : Int)) = if r ∈ L then some (P.int ((b + L.idxOf r : Nat) : Int)) else none
  | [], b => by
    rw [if_neg (by simp)]
    rfl
  | x :: L, b => by
    have ih := atKy_row r L (b + 1)
    rw [List.length_cons, List.range'_succ, List.map_cons, List.map_cons]
    show (if rwK x = rwK r then some (P.int (b : Int)) else atKy (rwK r) (L.map rwK) ((List.range' (b + 1) L.length).map fun (n : Nat) => P.int (n : Int))) = _
    by_cases hx : x = r
    · subst hx
      rw [if_pos rfl, if_pos List.mem_cons_self, List.idxOf_cons_self, Nat.add_zero]
    · rw [if_neg (fun z => hx (rwK_inj z)), ih]
      have e : (x == r) = false := by simpa using hx
      by_cases hr : r ∈ L
      · rw [if_pos hr, if_pos (List.mem_cons_of_mem _ hr), List.idxOf_cons, e]
        have : b + 1 + List.idxOf r L = b + (List.idxOf r L + 1) := by omega
        rw [this]
        rfl
      · rw [if_neg hr, if_neg]
        intro z
        rcases List.mem_cons.mp z with z | z
        · exact hx z.symm
        · exact hr z
structure PSt where
  told : Option Nat
  op : List Row
  pos : Nat
  L : List Row
def plainS : List Nat := [120, 121, 122, 48, 49]
def deedS : List Nat := [99, 105, 110]
def stepT (tx : List Nat) (q : PSt) : Option PSt :=
  let sg := tx.getD q.pos 0
  match q.told with
  | none =>
    if sg ∈ plainS then some ⟨some (q.L.idxOf (sg, [])), q.op, q.pos + 1, numL q.L (sg, [])⟩
    else if sg ∈ deedS ∧ (tx.drop (q.pos + 1)).take 1 = [40] then some ⟨none, (sg, []) :: q.op, q.pos + 2, q.L⟩
    else if sg = 40 then some ⟨none, (40, []) :: q.op, q.pos + 1, q.L⟩
    else none
  | some r => match q.op with
    | [] => none
    | f :: op =>
      if sg = 41 ∧ f.1 ≠ 40 then some ⟨some (q.L.idxOf (f.1, f.2 ++ [r])), op, q.pos + 1, numL q.L (f.1, f.2 ++ [r])⟩
      else if f = (40, []) ∧ ((tx.drop q.pos).take 3 = [32, 38, 32] ∨ (tx.drop q.pos).take 3 = [32, 124, 32]) then some ⟨none, (tx.getD (q.pos + 1) 0, [r]) :: op, q.pos + 3, q.L⟩
      else none
def runT (tx : List Nat) : Nat → PSt → Option PSt
  | 0, _ => none
  | n + 1, q => if q.pos < tx.length then (match stepT tx q with
    | some q' => runT tx n q'
    | none => none) else some q
def endT (o : Option PSt) : Option (Nat × List Row) := match o with
  | some ⟨some r, [], _, L⟩ => some (r, L)
  | _ => none
def readT (tx : List Nat) (L : List Row) : Option (Nat × List Row) := endT (runT tx 1000 ⟨none, [], 0, L⟩)
inductive Tr
  | leaf (s : Nat)
  | un (s : Nat) (t : Tr)
  | bin (s : Nat) (t u : Tr)
namespace Tr
def txt : Tr → List Nat
  | leaf s => [s]
  | un s t => s :: 40 :: (t.txt ++ [41])
  | bin s t u => 40 :: (t.txt ++ (32 :: s :: 32 :: (u.txt ++ [41])))
def ok (ls : List Nat) : Tr → Prop
  | leaf s => s ∈ ls ∨ s = 48 ∨ s = 49
  | un s t => s ∈ deedS ∧ t.ok ls
  | bin s t u => (s = 38 ∨ s = 124) ∧ t.ok ls ∧ u.ok ls
def dep : Tr → Nat
  | leaf _ => 0
  | un _ t => t.dep + 1
  | bin _ t u => max t.dep u.dep + 1
def Den (L : List Row) : Nat → Tr → Prop
  | r, leaf s => L[r]? = some (s, [])
  | r, un s t => ∃ a, L[r]? = some (s, [a]) ∧ a < r ∧ Den L a t
  | r, bin s t u => ∃ a b, L[r]? = some (s, [a, b]) ∧ a < r ∧ b < r ∧ Den L a t ∧ Den L b u
end Tr
structure Rows_ (L : List Row) : Prop where
  nd : L.Nodup
  lt : ∀ (i : Nat) (r : Row), L[i]? = some r → ∀ a ∈ r.2, a < i
theorem numL_pre (L : List Row) (r : Row) : L <+: numL L r := by
  unfold numL
  split
  · exact List.prefix_refl _
  · exact List.prefix_append _ _
theorem numL_at (L : List Row) (r : Row) : (numL L r)[L.idxOf r]? = some r := by
  unfold numL
  by_cases h : r ∈ L
  · rw [if_pos h]
    have := List.idxOf_lt_length_of_mem h
    rw [List.getElem?_eq_getElem this, List.getElem_idxOf]
  · rw [if_neg h, List.idxOf_eq_length h]
    simp
theorem numL_rows {L : List Row} {r : Row} (h : Rows_ L) (hr : ∀ a ∈ r.2, a < L.length) : Rows_ (numL L r) := by
  unfold numL
  by_cases hm : r ∈ L
  · rw [if_pos hm]; exact h
  · rw [if_neg hm]
    refine ⟨List.nodup_append.mpr ⟨h.nd, by simp, fun a ha b hb hab => ?_⟩, fun i x hi a ha => ?_⟩
    · have : b = r := by simpa using hb
      subst this
      subst hab
      exact hm ha
    · by_cases hl : i < L.length
      · rw [List.getElem?_append_left hl] at hi
        exact h.lt i x hi a ha
      · rw [List.getElem?_append_right (by omega)] at hi
        cases e : i - L.length with
        | zero =>
          rw [e] at hi
          have : r = x := by simpa using hi
          subst this
          have := hr a ha
          omega
        | succ n => rw [e] at hi; simp at hi
theorem numL_len (L : List Row) (r : Row) : (numL L r).length ≤ L.length + 1 := by
  unfold numL
  split
  · omega
  · simp
theorem pre_at {L M : List Row} {i : Nat} {r : Row} (h : L <+: M) (hi : L[i]? = some r) : M[i]? = some r := by
  obtain ⟨N, rfl⟩ := h
  rw [List.getElem?_append_left (List.getElem?_eq_some_iff.mp hi).1]
  exact hi
theorem Tr.Den.mono {L M : List Row} (h : L <+: M) : ∀ {t : Tr} {r : Nat}, Tr.Den L r t → Tr.Den M r t
  | .leaf s, r, d => pre_at h d
  | .un s t, r, d => by
    obtain ⟨a, h1, h2, h3⟩ := d
    exact ⟨a, pre_at h h1, h2, Tr.Den.mono h h3⟩
  | .bin s t u, r, d => by
    obtain ⟨a, b, h1, h2, h3, h4, h5⟩ := d
    exact ⟨a, b, pre_at h h1, h2, h3, Tr.Den.mono h h4, Tr.Den.mono h h5⟩
theorem Tr.Den.lt {L : List Row} : ∀ {t : Tr} {r : Nat}, Tr.Den L r t → r < L.length
  | .leaf s, r, d => (List.getElem?_eq_some_iff.mp d).1
  | .un s t, r, d => by obtain ⟨a, h1, _⟩ := d; exact (List.getElem?_eq_some_iff.mp h1).1
  | .bin s t u, r, d => by obtain ⟨a, b, h1, _⟩ := d; exact (List.getElem?_eq_some_iff.mp h1).1
theorem getD_at {tx w : List Nat} {i c : Nat} (h : tx.drop i = c :: w) : tx.getD i 0 = c ∧ i < tx.length := by
  have hl : i < tx.length := by
    apply Decidable.byContradiction
    intro z
    rw [List.drop_eq_nil_of_le (by omega)] at h
    cases h
  have e := List.drop_eq_getElem_cons hl
  rw [e] at h
  refine ⟨?_, hl⟩
  rw [List.getD_eq_getElem?_getD, List.getElem?_eq_getElem hl]
  exact (List.cons.inj h).1
theorem drop_more {tx u w : List Nat} {i : Nat} (h : tx.drop i = u ++ w) : tx.drop (i + u.length) = w := by
  rw [← List.drop_drop, h, List.drop_left']
  rfl
theorem run_step {tx : List Nat} {q q' : PSt} {n : Nat} (hl : q.pos < tx.length) (h : stepT tx q = some q') : runT tx (n + 1) q = runT tx n q' := by
  show (if q.pos < tx.length then (match stepT tx q with
    | some q' => runT tx n q'
    | none => none) else some q) = _
  rw [if_pos hl, h]
def steps : Tr → Nat
  | .leaf _ => 1
  | .un _ t => steps t + 2
  | .bin _ t u => steps t + steps u + 3
theorem steps_le : ∀ t : Tr, steps t ≤ t.txt.length
  | .leaf _ => Nat.le_refl _
  | .un s t => by
    have := steps_le t
    show steps t + 2 ≤ (s :: 40 :: (t.txt ++ [41])).length
    simp
    omega
  | .bin s t u => by
    have := steps_le t
    have := steps_le u
    show steps t + steps u + 3 ≤ (40 :: (t.txt ++ (32 :: s :: 32 :: (u.txt ++ [41])))).length
    simp
    omega
def gdR (ls : List Nat) (x : Row) : Prop := (x.1 ∈ ls ∧ x.2 = []) ∨ ((x.1 = 48 ∨ x.1 = 49) ∧ x.2 = []) ∨ (x.1 ∈ deedS ∧ ∃ a, x.2 = [a]) ∨ ((x.1 = 38 ∨ x.1 = 124) ∧ ∃ a b, x.2 = [a, b])
theorem numL_mem {L : List Row} {r x : Row} (h : x ∈ numL L r) : x ∈ L ∨ x = r := by
  unfold numL at h
  split at h
  · exact .inl h
  · rcases List.mem_append.mp h with z | z
    · exact .inl z
    · exact .inr (by simpa using z)
theorem run_term {ls : List Nat} (hls : ∀ s ∈ ls, s = 120 ∨ s = 121 ∨ s = 122) {tx : List Nat} : ∀ (t : Tr) (w : List Nat) (i n : Nat) (op : List Row) (L : List Row), t.ok ls → tx.drop i = t.txt ++ w → Rows_ L →
    ∃ r M, (∀ n, runT tx (steps t + n) ⟨none, op, i, L⟩ = runT tx n ⟨some r, op, i + t.txt.length, M⟩) ∧ L <+: M ∧ Rows_ M ∧ Tr.Den M r t ∧ M.length ≤ L.length + t.txt.length ∧ ∀ x ∈ M, x ∈ L ∨ gdR ls x
  | .leaf s, w, i, n, op, L, hk, hx, hL => by
    obtain ⟨e, hl⟩ := getD_at (c := s) (w := w) hx
    have hs : s ∈ plainS := by
      rcases hk with z | z | z
      · rcases hls s z with z | z | z <;> rw [z] <;> decide
      · rw [z]; decide
      · rw [z]; decide
    refine ⟨L.idxOf (s, []), numL L (s, []), fun n => ?_, numL_pre _ _, numL_rows hL (fun a ha => by cases ha), numL_at _ _, ?_⟩
    · show runT tx (1 + n) _ = _
      rw [Nat.add_comm]
      refine run_step hl ?_
      unfold stepT
      dsimp only
      rw [e, if_pos hs]
      rfl
    · refine ⟨numL_len _ _, fun x hx => ?_⟩
      rcases numL_mem hx with z | z
      · exact .inl z
      · rw [z]
        rcases hk with y | y
        · exact .inr (.inl ⟨y, rfl⟩)
        · exact .inr (.inr (.inl ⟨y, rfl⟩))
  | .un s t, w, i, n, op, L, hk, hx, hL => by
    obtain ⟨hs, hk⟩ := hk
    have hx : tx.drop i = s :: 40 :: (t.txt ++ (41 :: w)) := by
      rw [hx]
      show s :: 40 :: (t.txt ++ [41]) ++ w = _
      simp
    obtain ⟨e, hl⟩ := getD_at hx
    have hx1 : tx.drop (i + 1) = 40 :: (t.txt ++ (41 :: w)) := drop_more (u := [s]) hx
    have hx2 : tx.drop (i + 2) = t.txt ++ (41 :: w) := drop_more (u := [s, 40]) hx
    obtain ⟨r, M, h1, h2, h3, h4, h5, h6⟩ := run_term hls t (41 :: w) (i + 2) n ((s, []) :: op) L hk hx2 hL
    have hx3 : tx.drop (i + 2 + t.txt.length) = 41 :: w := drop_more hx2
    obtain ⟨e3, hl3⟩ := getD_at hx3
    have hs40 : s ≠ 40 := by
      intro z
      rw [z] at hs
      revert hs
      decide
    have hsp : ¬ s ∈ plainS := by
      intro z
      unfold deedS at hs
      unfold plainS at z
      simp at hs z
      omega
    have hlen : (Tr.un s t).txt.length = t.txt.length + 3 := by
      show (s :: 40 :: (t.txt ++ [41])).length = _
      simp
    have hrw := numL_rows (r := (s, [r])) h3 (fun a ha => by
      have : a = r := by simpa using ha
      rw [this]
      exact h4.lt)
    refine ⟨M.idxOf (s, [r]), numL M (s, [r]), fun n => ?_, h2.trans (numL_pre _ _), hrw, ⟨r, numL_at _ _, ?_, h4.mono (numL_pre _ _)⟩, ?_⟩
    · have e0 : steps (Tr.un s t) + n = (steps t + (n + 1)) + 1 := by show steps t + 2 + n = _; omega
      rw [e0, run_step (q' := ⟨none, (s, []) :: op, i + 2, L⟩) hl, h1, run_step (q' := ⟨some (M.idxOf (s, [r])), op, i + 2 + t.txt.length + 1, numL M (s, [r])⟩) hl3]
      · rw [hlen]
        have : i + 2 + t.txt.length + 1 = i + (t.txt.length + 3) := by omega
        rw [this]
      · unfold stepT
        dsimp only
        rw [e3, if_pos ⟨rfl, hs40⟩]
        rfl
      · unfold stepT
        dsimp only
        rw [e, if_neg hsp, if_pos ⟨hs, by rw [hx1]; rfl⟩]
    · exact hrw.lt _ _ (numL_at M (s, [r])) r (by simp)
    · have := numL_len M (s, [r])
      rw [hlen]
      refine ⟨by omega, fun x hx => ?_⟩
      rcases numL_mem hx with z | z
      · exact h6 x z
      · rw [z]
        exact .inr (.inr (.inr (.inl ⟨hs, r, rfl⟩)))
  | .bin s t u, w, i, n, op, L, hk, hx, hL => by
    obtain ⟨hs, hk, hk2⟩ := hk
    have hx : tx.drop i = 40 :: (t.txt ++ (32 :: s :: 32 :: (u.txt ++ (41 :: w)))) := by
      rw [hx]
      show 40 :: (t.txt ++ (32 :: s :: 32 :: (u.txt ++ [41]))) ++ w = _
      simp
    obtain ⟨e, hl⟩ := getD_at hx
    have hx1 : tx.drop (i + 1) = t.txt ++ (32 :: s :: 32 :: (u.txt ++ (41 :: w))) := drop_more (u := [40]) hx
    obtain ⟨r, M, h1, h2, h3, h4, h5, h6⟩ := run_term hls t _ (i + 1) n ((40, []) :: op) L hk hx1 hL
    have hx2 : tx.drop (i + 1 + t.txt.length) = 32 :: s :: 32 :: (u.txt ++ (41 :: w)) := drop_more hx1
    obtain ⟨e2, hl2⟩ := getD_at hx2
    have hx2' : tx.drop (i + 1 + t.txt.length + 1) = s :: 32 :: (u.txt ++ (41 :: w)) := drop_more (u := [32]) hx2
    obtain ⟨e2', _⟩ := getD_at hx2'
    have hx3 : tx.drop (i + 1 + t.txt.length + 3) = u.txt ++ (41 :: w) := drop_more (u := [32, s, 32]) hx2
    obtain ⟨r2, M2, g1, g2, g3, g4, g5, g6⟩ := run_term hls u _ (i + 1 + t.txt.length + 3) n ((s, [r]) :: op) M hk2 hx3 h3
    have hx4 : tx.drop (i + 1 + t.txt.length + 3 + u.txt.length) = 41 :: w := drop_more hx3
    obtain ⟨e4, hl4⟩ := getD_at hx4
    have hs40 : s ≠ 40 := by omega
    have hlen : (Tr.bin s t u).txt.length = t.txt.length + u.txt.length + 5 := by
      show (40 :: (t.txt ++ (32 :: s :: 32 :: (u.txt ++ [41])))).length = _
      simp
      omega
    have hlt : r < M2.length := (h4.mono g2).lt
    have hin : ∀ a ∈ ((s, [r, r2]) : Row).2, a < M2.length := fun a ha => by
      have : a = r ∨ a = r2 := by simpa using ha
      rcases this with z | z
      · rw [z]; exact hlt
      · rw [z]; exact g4.lt
    have hrw := numL_rows (r := (s, [r, r2])) g3 hin
    refine ⟨M2.idxOf (s, [r, r2]), numL M2 (s, [r, r2]), fun n => ?_, (h2.trans g2).trans (numL_pre _ _), hrw, ⟨r, r2, numL_at _ _, hrw.lt _ _ (numL_at M2 _) r (by simp), hrw.lt _ _ (numL_at M2 _) r2 (by simp), (h4.mono g2).mono (numL_pre _ _), g4.mono (numL_pre _ _)⟩, ?_⟩
    · have e0 : steps (Tr.bin s t u) + n = (steps t + ((steps u + (n + 1)) + 1)) + 1 := by show steps t + steps u + 3 + n = _; omega
      rw [e0, run_step (q' := ⟨none, (40, []) :: op, i + 1, L⟩) hl, h1, run_step (q' := ⟨none, (s, [r]) :: op, i + 1 + t.txt.length + 3, M⟩) hl2, g1, run_step (q' := ⟨some (M2.idxOf (s, [r, r2])), op, i + 1 + t.txt.length + 3 + u.txt.length + 1, numL M2 (s, [r, r2])⟩) hl4]
      · rw [hlen]
        have : i + 1 + t.txt.length + 3 + u.txt.length + 1 = i + (t.txt.length + u.txt.length + 5) := by omega
        rw [this]
      · unfold stepT
        dsimp only
        rw [e4, if_pos ⟨rfl, hs40⟩]
        rfl
      · unfold stepT
        dsimp only
        have hz : (tx.drop (i + 1 + t.txt.length)).take 3 = [32, 38, 32] ∨ (tx.drop (i + 1 + t.txt.length)).take 3 = [32, 124, 32] := by
          rw [hx2]
          rcases hs with z | z
          · left; rw [z]; rfl
          · right; rw [z]; rfl
        rw [e2, if_neg (by decide), if_pos ⟨rfl, hz⟩, e2']
      · unfold stepT
        dsimp only
        rw [e, if_neg (by decide), if_neg (fun z => absurd z.1 (by decide)), if_pos rfl]
    · have := numL_len M2 (s, [r, r2])
      rw [hlen]
      refine ⟨by omega, fun x hx => ?_⟩
      rcases numL_mem hx with z | z
      · rcases g6 x z with y | y
        · exact h6 x y
        · exact .inr y
      · rw [z]
        exact .inr (.inr (.inr (.inr ⟨hs, r, r2, rfl⟩)))
theorem read_term {ls : List Nat} (hls : ∀ s ∈ ls, s = 120 ∨ s = 121 ∨ s = 122) {t : Tr} (hk : t.ok ls) {L : List Row} (hL : Rows_ L) (hlen : t.txt.length < 1000) :
    ∃ r M, readT t.txt L = some (r, M) ∧ L <+: M ∧ Rows_ M ∧ Tr.Den M r t ∧ M.length ≤ L.length + t.txt.length ∧ ∀ x ∈ M, x ∈ L ∨ gdR ls x := by
  obtain ⟨r, M, h1, h2, h3, h4, h5, h6⟩ := run_term (tx := t.txt) hls t [] 0 0 [] L hk (by simp) hL
  refine ⟨r, M, ?_, h2, h3, h4, h5, h6⟩
  have hs := steps_le t
  unfold readT
  have e : 1000 = steps t + ((999 - steps t) + 1) := by omega
  rw [e, h1]
  show endT (if 0 + t.txt.length < t.txt.length then _ else some _) = _
  rw [if_neg (by omega)]
  rfl
end Pl

namespace Mir
open PySem L2 PySem.W PyProof.Rows
end Mir

namespace Mir
open PySem L2
section
variable {ρ ρ1 ρ2 : En} {S S1 S2 S3 : Sto} {a b c e m : ME} {t u : MT} {s s' : MS} {Q : Fl → Sto → Prop}
end
end Mir

namespace Mir
open PySem L2
section
variable {ρ ρ1 : En} {S S1 S2 S3 : Sto} {a b cx : ME} {m r : MA} {s s' : MS} {d e v : Vl} {ds zs as : List Vl} {y : P} {c f : PySem.Str} {x : XD}

theorem exc_fn {g : MF} (hm : m ρ S = .ok ds S1) (hf : g ds S1 = .exc c x S2) : eFn g m ρ S = .exc c x S2 := by
  rw [eFn_eq, hm, bind_ok, hf]
theorem exc_fnK {g : MF} {n kl : Nat} {pm : List Nat} (hm : m ρ S = .ok ds S1) (hr : r ρ S1 = .ok zs S2) (h1 : ds.length = n) (h2 : zs.length = kl) (hp : permL (.p .non) pm (ds ++ zs) = as) (hf : g as S2 = .exc c x S3) : eFnK g n kl pm m r ρ S = .exc c x S3 := by
  unfold eFnK
  rw [hm, bind_ok, hr, bind_ok, if_pos ⟨h1, h2⟩, hp, hf]
theorem exs_expr (ha : a ρ S = .exc c x S1) : sExpr a ρ S = .ok (.xc ρ c x) S1 := by
  rw [sExpr_eq, ha]
  rfl
theorem exs_seq (h : s ρ S = .ok (.xc ρ1 c x) S1) : sSeq s s' ρ S = .ok (.xc ρ1 c x) S1 := by
  rw [sSeq_eq, h]
  rfl
theorem exs_raise (hm : m ρ S = .ok [d] S1) (hf : frz d S1 = .ok y S2) : sRaise c f m ρ S = .ok (.xc ρ c (some ([f], [y]))) S2 := by
  unfold sRaise
  rw [hm]
  show ((frz d S1).go ρ fun x S2 => RF.ok (.xc ρ c (some ([f], [x]))) S2) = _
  rw [hf]
  rfl
theorem ex_mkF {n k : Nat} {body : MS} (hl : ds.length = n) (hρ : ds.map some ++ List.replicate k none = ρ) (h : ∃ ρ1, body ρ S = .ok (.xc ρ1 c x) S1) (hS : S1.take S.length = S) : mkF n k body ds S = .exc c x S := by
  obtain ⟨ρ1, h⟩ := h
  rw [mkF_eq n k body ds S hl, hρ, h]
  show Res.exc c x (S1.take S.length) = _
  rw [hS]
theorem take_self' : S.take S.length = S := List.take_length

theorem ev_lam {q mk : PySem.Str} {jx : Nat} {mG : (Sto → Res Vl) → Sto → Res Vl} {o : Res Vl} (hc : S[jx]? = some (.tbl mk q)) (h : mG (fun S' => a ρ S') S = o) : eLam q jx mk mG a ρ S = o := by
  unfold eLam
  rw [hc]
  dsimp only
  rw [if_pos ⟨rfl, rfl⟩]
  exact h
theorem job_exc {T : Sb} {n : Nat} {i : Option Nat} {hs : List (PySem.Str × Option Nat × MX)} {mr : MS} {j : Sto → Res Vl} {o : Res Vl} (hj : j S = .exc c x S1) (hr : tryGo T hs (List.replicate n none) c x S1 = .ok (.rt d) S2) (he : endF S.length (.ok (.rt d) S2) = o) : mJob n T i hs mr j S = o := by
  unfold mJob
  rw [sSeq_eq]
  have : sTry T (jobS i j) hs (List.replicate n none) S = .ok (.rt d) S2 := by
    unfold sTry jobS
    rw [hj]
    exact hr
  rw [this]
  show endF S.length (.ok (.rt d) S2) = o
  rw [he]
theorem try_yes {T : Sb} {h : PySem.Str} {i : Option Nat} {g : MX} {hs : List (PySem.Str × Option Nat × MX)} (hb : sbAt T c h = some true) (hi : hasE i ρ = true) (hg : g c x (unE i ρ) S = .ok (.rt d) S1) : tryGo T ((h, i, g) :: hs) ρ c x S = .ok (.rt d) S1 := by
  unfold tryGo
  rw [hb]
  dsimp only
  rw [if_pos hi, hg]
  rfl

end
end Mir

namespace Mir
open PySem L2
section
variable {ρ : En} {S S1 S2 S3 : Sto} {a b : ME} {c c2 : Str} {g g2 : MF} {d e : Vl} {q : Bool}
end
end Mir

namespace Law
open PySem L2 Mir
def Urn (S : Sto) (k : Nat) : Prop := ∃ a b c : Int, S[k]? = some (.lst [.int a, .int b, .int c]) ∧ 0 ≤ a ∧ 0 ≤ b ∧ b < 2147483323 ∧ 0 ≤ c
structure Ux (k : Nat) (S S' : Sto) : Prop where
  len : S'.length = S.length
  urn : Urn S' k
  oth : ∀ j, j ≠ k → S'[j]? = S[j]?
theorem Ux.trans {k : Nat} {S S1 S2 : Sto} (h : Ux k S S1) (h' : Ux k S1 S2) : Ux k S S2 := ⟨h'.len.trans h.len, h'.urn, fun j hj => (h'.oth j hj).trans (h.oth j hj)⟩
theorem Ux.of_set {k : Nat} {S : Sto} {c : Cell} {a b e : Int} (hk : S[k]? = some c) (ha : 0 ≤ a) (hb : 0 ≤ b) (hb2 : b < 2147483323) (hc : 0 ≤ e) : Ux k S (S.set k (.lst [.int a, .int b, .int e])) :=
  ⟨List.length_set, ⟨a, b, e, get_set_self hk, ha, hb, hb2, hc⟩, fun j hj => get_set_ne (Ne.symm hj)⟩
end Law

namespace Law
open PySem L2 Mir Pl
structure N1 (s n : Nat) (rows : List (List Nat)) (S : Sto) : Prop where
  len : S.length = s + n + 1
  cel : ∀ i, i < n → S[s + i]? = some (.lst (nums (row rows i)))
  out : S[s + n]? = some (.lsv ((List.range n).map fun i => Vl.c (s + i)))
theorem N1.ux {s n k : Nat} {rows : List (List Nat)} {S S' : Sto} (h : N1 s n rows S) (hk : k < s) (u : Ux k S S') : N1 s n rows S' :=
  ⟨u.len.trans h.len, fun i hi => by rw [u.oth _ (by omega)]; exact h.cel i hi, by rw [u.oth _ (by omega)]; exact h.out⟩
theorem N1.app {s n k : Nat} {rows : List (List Nat)} {S : Sto} (h : N1 s n rows S) (hk : k < n) (hr : rows.length = n) (l : List Nat) : N1 s n (rows.set k l) (S.set (s + k) (.lst (nums l))) := by
  refine ⟨by rw [List.length_set]; exact h.len, fun i hi => ?_, ?_⟩
  · by_cases q : i = k
    · subst q
      rw [get_set_self (h.cel i hi), row_set_self (by omega)]
    · rw [get_set_ne (by omega), row_set_ne (Ne.symm q)]
      exact h.cel i hi
  · rw [get_set_ne (by omega)]
    exact h.out
structure Low (ku s : Nat) (S0 S : Sto) : Prop where
  urn : Urn S ku
  oth : ∀ j, j < s → j ≠ ku → S[j]? = S0[j]?
theorem Low.ux {ku s : Nat} {S0 S S' : Sto} (h : Low ku s S0 S) (u : Ux ku S S') : Low ku s S0 S' := ⟨u.urn, fun j hj hn => (u.oth j hn).trans (h.oth j hj hn)⟩
theorem Low.set {ku s k : Nat} {S0 S : Sto} {c : Cell} (h : Low ku s S0 S) (hk : s ≤ k) (hu : ku < s) : Low ku s S0 (S.set k c) := by
  refine ⟨?_, fun j hj hn => by rw [get_set_ne (by omega)]; exact h.oth j hj hn⟩
  obtain ⟨a, b, e, h1, h2⟩ := h.urn
  exact ⟨a, b, e, by rw [get_set_ne (by omega)]; exact h1, h2⟩
abbrev e1 (ku n o : Nat) (sh : Int) (kv jv : Option Vl) : En := [some (.c ku), some (.p (.int (n : Int))), kv, none, some (.c o), some (.p (.int sh)), jv, none, none]
end Law

namespace Law
open PySem L2 Mir Pl
def RdL (s n : Nat) (S : Sto) (d : Vl) (l : List Nat) : Prop := d = .p (.lst (nums l)) ∨ ∃ i, i < n ∧ d = .c (s + i) ∧ (S[s + i]? = some (.lst (nums l)) ∨ S[s + i]? = some (.fz (.lst (nums l))))
theorem RdL.rd {s n : Nat} {S : Sto} {d : Vl} {l : List Nat} (h : RdL s n S d l) : rd S d = some (.lst (nums l)) := by
  rcases h with rfl | ⟨i, _, rfl, h | h⟩
  · rfl
  · exact rd_lst h
  · exact rd_fz h
structure Fz (s n : Nat) (S S' : Sto) : Prop where
  len : S'.length = S.length
  oth : ∀ j, j < s ∨ s + n ≤ j → S'[j]? = S[j]?
  rdl : ∀ d l, RdL s n S d l → RdL s n S' d l
theorem Fz.refl {s n : Nat} {S : Sto} : Fz s n S S := ⟨rfl, fun _ _ => rfl, fun _ _ h => h⟩
theorem Fz.trans {s n : Nat} {S S1 S2 : Sto} (h : Fz s n S S1) (h' : Fz s n S1 S2) : Fz s n S S2 := ⟨h'.len.trans h.len, fun j hj => (h'.oth j hj).trans (h.oth j hj), fun d l q => h'.rdl d l (h.rdl d l q)⟩
theorem RdL.frz {s n : Nat} {S : Sto} {d : Vl} {l : List Nat} (h : RdL s n S d l) : ∃ S', frz d S = .ok (.lst (nums l)) S' ∧ Fz s n S S' := by
  rcases h with rfl | ⟨i, hi, rfl, h | h⟩
  · exact ⟨S, rfl, Fz.refl⟩
  · refine ⟨_, frz_lst h, by rw [List.length_set], fun j hj => get_set_ne (by omega), fun d' l' q => ?_⟩
    rcases q with q | ⟨i', hi', rfl, q⟩
    · exact .inl q
    · refine .inr ⟨i', hi', rfl, ?_⟩
      by_cases e : i' = i
      · subst e
        rw [get_set_self h]
        rw [h] at q
        rcases q with q | q
        · rw [← Cell.lst.inj (Option.some.inj q)]; exact .inr rfl
        · cases q
      · rw [get_set_ne (by omega)]
        exact q
  · exact ⟨S, frz_fz h, Fz.refl⟩
structure N2 (s n : Nat) (rows : List (List Nat)) (S : Sto) : Prop where
  len : S.length = s + n + 1
  ex : ∃ ds, S[s + n]? = some (.lsv ds) ∧ ds.length = n ∧ ∀ i, i < n → ∃ d, ds[i]? = some d ∧ RdL s n S d (row rows i)
theorem N1.n2 {s n : Nat} {rows : List (List Nat)} {S : Sto} (h : N1 s n rows S) : N2 s n rows S :=
  ⟨h.len, _, h.out, by rw [List.length_map, List.length_range], fun i hi => ⟨.c (s + i), by rw [List.getElem?_map, List.getElem?_range hi]; rfl, .inr ⟨i, hi, rfl, .inl (h.cel i hi)⟩⟩⟩
theorem N2.fz {s n : Nat} {rows : List (List Nat)} {S S' : Sto} (h : N2 s n rows S) (f : Fz s n S S') : N2 s n rows S' := by
  obtain ⟨ds, h1, h2, h3⟩ := h.ex
  refine ⟨f.len.trans h.len, ds, by rw [f.oth _ (by omega)]; exact h1, h2, fun i hi => ?_⟩
  obtain ⟨d, e, r⟩ := h3 i hi
  exact ⟨d, e, f.rdl _ _ r⟩
theorem setV_lsvp {S : Sto} {k n : Nat} {xs : List Vl} {j : Int} {x : P} (h : S[k]? = some (.lsv xs)) (hj : ixN xs.length j = some n) : setV (.c k) (.p (.int j)) (.p x) S = .ok () (S.set k (.lsv (xs.set n (.p x)))) := by
  unfold setV
  dsimp only
  rw [h]
  dsimp only
  rw [hj]
theorem ixN_nat {n i : Nat} (h : i < n) : ixN n (i : Int) = some i := by
  unfold ixN
  rw [if_pos (by omega), if_pos (by omega)]
  simp
theorem N2.put {s n : Nat} {rows : List (List Nat)} {S : Sto} (h : N2 s n rows S) (hr : rows.length = n) {k : Nat} (hk : k < n) (l : List Nat) : ∃ S', setV (.c (s + n)) (.p (.int (k : Int))) (.p (.lst (nums l))) S = .ok () S' ∧ N2 s n (rows.set k l) S' ∧ ∀ j, j < s → S'[j]? = S[j]? := by
  obtain ⟨ds, h1, h2, h3⟩ := h.ex
  refine ⟨_, setV_lsvp h1 (by rw [h2]; exact ixN_nat hk), ⟨by rw [List.length_set]; exact h.len, _, get_set_self h1, by rw [List.length_set]; exact h2, fun i hi => ?_⟩, fun j hj => get_set_ne (by omega)⟩
  by_cases q : i = k
  · subst q
    exact ⟨_, List.getElem?_set_self (by omega), .inl (by rw [row_set_self (by omega)])⟩
  · obtain ⟨d, e, r⟩ := h3 i hi
    refine ⟨d, by rw [List.getElem?_set_ne (Ne.symm q)]; exact e, ?_⟩
    rw [row_set_ne (Ne.symm q)]
    rcases r with r | ⟨i', hi', rfl, r⟩
    · exact .inl r
    · exact .inr ⟨i', hi', rfl, by rw [get_set_ne (by omega)]; exact r⟩
abbrev e2 (ku n o : Nat) (sh : Int) (tv kv jv : Option Vl) : En := [some (.c ku), some (.p (.int (n : Int))), kv, tv, some (.c o), some (.p (.int sh)), jv, none, none]
end Law

namespace Pl
structure Near (n : Nat) (near : List (List Nat)) : Prop where
  len : near.length = n
  srt : ∀ i, i < n → (row near i).Pairwise (· < ·)
  lt : ∀ i, i < n → ∀ e ∈ row near i, e < n
  rfl_ : ∀ i, i < n → i ∈ row near i
  trs : ∀ i, i < n → ∀ j ∈ row near i, ∀ e ∈ row near j, e ∈ row near i
end Pl
namespace Mir
open L2 Pl
end Mir
namespace Law
open PySem L2 Mir Pl
theorem RdL.frzN {s n : Nat} {S : Sto} {d : Vl} {l : List Nat} (m : Nat) (h : RdL s n S d l) : ∃ S', frzN (m + 1) d S = .ok (.lst (nums l)) S' ∧ Fz s n S S' := by
  have e : Mir.frzN (m + 1) d S = Mir.frz d S := by
    rcases h with rfl | ⟨i, hi, rfl, h | h⟩
    · rfl
    · rw [frz_lst h]
      unfold Mir.frzN
      dsimp only
      rw [h]
    · rw [frz_fz h]
      unfold Mir.frzN
      dsimp only
      rw [h]
  rw [e]
  exact h.frz
end Law

namespace Pl
end Pl
namespace Mir
abbrev txts (l : List (List Nat)) : List P := l.map P.str
@[simp] theorem strs_length (l : List (List Nat)) : (txts l).length = l.length := List.length_map _
end Mir
namespace Law
open PySem L2 Mir Pl
end Law

namespace Mir
open L2
@[simp] theorem tyP_str (x : List Nat) : tyP "str" (.str x) = true := rfl
@[simp] theorem tyP_lst (x : List P) : tyP "list" (.lst x) = true := rfl
end Mir
namespace Law
open PySem L2 Mir Pl
structure NameOk (x : List Nat) : Prop where
  is : ∀ S, m_is_name [.p (.str x)] S = .ok (.p (.bl true)) S
  c10 : 10 ∉ x
  c32 : 32 ∉ x
  c58 : 58 ∉ x
  len : x.length ≤ 8
  asc : (x.all fun c => decide (c < 128)) = true
def rowT (x : List Nat) (ns : List (List Nat)) : List Nat := x ++ ([58, 32] ++ TL.joinL [32] ns)
end Law

namespace Mir
open L2 Pl
end Mir
namespace Law
open PySem L2 Mir Pl
def pick (order : List (List Nat)) (l : List Nat) : List (List Nat) := l.map fun i => order.getD i []
def sq (b : Bool) (xs : List P) : P := if b then .lst xs else .tup xs
theorem mem_getD {order : List (List Nat)} {i : Nat} (hi : i < order.length) : order.getD i [] ∈ order := by
  simp [hi]
theorem blsOf_map (l : List Bool) : blsOf (l.map P.bl) = some l := by
  induction l with
  | nil => rfl
  | cons a l ih =>
    show (blsOf (l.map P.bl)).map (a :: ·) = _
    rw [ih]
    rfl
end Law

namespace Law
open PySem L2 Mir Pl
end Law

namespace Law
open PySem L2 Mir Pl
def bitsL (near : List (List Nat)) : List Nat := near.map bitsN
end Law

namespace Law
open PySem L2 Mir Pl
end Law

namespace Law
open PySem L2 Mir Pl
theorem map_getD {A : Type} (d : A) (l : List A) : ((List.range l.length).map fun i => l.getD i d) = l := by
  apply List.ext_getElem?
  intro i
  rw [List.getElem?_map]
  by_cases h : i < l.length
  · rw [List.getElem?_range h, List.getElem?_eq_getElem h]
    simp [h]
  · rw [List.getElem?_eq_none (by rw [List.length_range]; omega), List.getElem?_eq_none (by omega)]
    rfl
structure Spc (n : Nat) (order : List (List Nat)) (near : List (List Nat)) : Prop where
  len : order.length = n
  nd : order.Nodup
  nm : ∀ x ∈ order, NameOk x
  near : Near n near
  pos : 0 < n
  le : n ≤ 256
def rowAt (order near : List (List Nat)) (i : Nat) : List Nat := rowT (order.getD i []) (pick order (row near i))
def textT (n : Nat) (order near : List (List Nat)) : List Nat := TL.joinL [10] ((List.range n).map (rowAt order near))
section
variable {n : Nat} {order near : List (List Nat)} (h : Spc n order near)
include h
theorem Spc.at_ {i : Nat} (hi : i < n) : NameOk (order.getD i []) := h.nm _ (mem_getD (by rw [h.len]; exact hi))
theorem Spc.pk {i : Nat} (hi : i < n) : ∀ y ∈ pick order (row near i), NameOk y := fun y hy => by
  obtain ⟨j, hj, rfl⟩ := List.mem_map.mp hy
  exact h.at_ (h.near.lt i hi j hj)
theorem joinL_mem {c : Nat} {s : List Nat} (hs : c ∉ s) : ∀ {l : List (List Nat)}, (∀ x ∈ l, c ∉ x) → c ∉ TL.joinL s l
  | [], _ => by simp [TL.joinL]
  | [p], hl => by simpa [TL.joinL] using hl p List.mem_cons_self
  | p :: q :: r, hl => by
    have ih := joinL_mem hs (l := q :: r) fun x hx => hl x (List.mem_cons_of_mem _ hx)
    have h0 := hl p List.mem_cons_self
    show c ∉ p ++ (s ++ TL.joinL s (q :: r))
    simp only [List.mem_append, not_or]
    exact ⟨h0, hs, ih⟩
theorem Spc.row_10 {i : Nat} (hi : i < n) : 10 ∉ rowAt order near i := by
  unfold rowAt rowT
  have h1 := (h.at_ hi).c10
  have h2 := joinL_mem h (c := 10) (s := [32]) (by decide) fun x hx => (h.pk hi x hx).c10
  simp only [List.mem_append, not_or]
  exact ⟨h1, by decide, h2⟩
theorem Spc.split : TL.spl [10] 0 [] (textT n order near) = (List.range n).map (rowAt order near) := by
  refine TL.spl_join ?_ fun p hp => ?_
  · intro z
    have := List.map_eq_nil_iff.mp z
    have hl := congrArg List.length this
    rw [List.length_range] at hl
    have := h.pos
    simp at hl
    omega
  · obtain ⟨i, hi, rfl⟩ := List.mem_map.mp hp
    exact h.row_10 (List.mem_range.mp hi)
end
end Law

namespace Law
open PySem L2 Mir Pl
def rowP (order near : List (List Nat)) (i : Nat) : P := .tup [.str (order.getD i []), .lst (txts (pick order (row near i)))]
theorem merge_ok {order : List (List Nat)} (vs : Nat → P) (nd : order.Nodup) : ∀ (is : List Nat) (ks xs : List P) (done : List (List Nat)), ks = txts done → (done ++ is.map fun i => order.getD i []).Nodup →
    ∃ xs', mergeP (is.map fun i => P.tup [.str (order.getD i []), vs i]) ks xs = some (txts (done ++ is.map fun i => order.getD i []), xs')
  | [], ks, xs, done, hk, _ => ⟨xs, by rw [hk]; show some (_, _) = _; rw [List.map_nil, List.append_nil]⟩
  | i :: is, ks, xs, done, hk, hd => by
    have hnot : order.getD i [] ∉ done := by
      rw [List.map_cons, List.nodup_append] at hd
      intro z
      exact hd.2.2 _ z _ List.mem_cons_self rfl
    have hany : (ks.any fun a => keq a (.str (order.getD i []))) = false := by
      rw [hk]
      unfold txts
      rw [List.any_map, List.any_eq_false]
      intro x hx
      show ¬ ((x == order.getD i []) = true)
      simp only [beq_iff_eq]
      intro z
      rw [← z] at hnot
      exact hnot hx
    have hp : dPutK (.str (order.getD i [])) ks = txts (done ++ [order.getD i []]) := by
      unfold dPutK
      rw [hany, if_neg (by decide), hk]
      unfold txts
      rw [List.map_append]
      rfl
    obtain ⟨xs', e⟩ := merge_ok vs nd is _ (dPutV (.str (order.getD i [])) (vs i) ks xs) (done ++ [order.getD i []]) hp (by
      rw [List.append_assoc]
      exact hd)
    refine ⟨xs', ?_⟩
    rw [List.map_cons]
    show mergeP (is.map fun i => P.tup [.str (order.getD i []), vs i]) (dPutK (.str (order.getD i [])) ks) (dPutV (.str (order.getD i [])) (vs i) ks xs) = _
    rw [e, List.append_assoc]
    rfl
section
variable {n : Nat} {order near : List (List Nat)} (h : Spc n order near)
include h
theorem Spc.ordr : ((List.range n).map fun i => order.getD i []) = order := by
  have := map_getD ([] : List Nat) order
  rw [h.len] at this
  exact this
theorem Spc.dict : ∃ vs, pDictP [.lst ((List.range n).map (rowP order near))] = some (.dct (txts order) vs) := by
  obtain ⟨xs, e⟩ := merge_ok (order := order) (fun i => .lst (txts (pick order (row near i)))) h.nd (List.range n) [] [] [] rfl (by rw [List.nil_append, h.ordr]; exact h.nd)
  rw [List.nil_append, h.ordr] at e
  refine ⟨xs, ?_⟩
  show (mergeP ((List.range n).map (rowP order near)) [] []).map (fun q => P.dct q.1 q.2) = _
  have : ((List.range n).map (rowP order near)) = (List.range n).map fun i => P.tup [.str (order.getD i []), .lst (txts (pick order (row near i)))] := rfl
  rw [this, e]
  rfl
end
end Law

namespace Law
open PySem L2 Mir Pl
section
variable {n : Nat} {order near : List (List Nat)} (h : Spc n order near)
include h
end
end Law

namespace Mir
open PySem
theorem putN_new {f : Str} : ∀ {ns : List Str}, f ∉ ns → putN f ns = ns ++ [f]
  | [], _ => rfl
  | n :: ns, h => by
    show (if n = f then n :: ns else n :: putN f ns) = _
    rw [if_neg (fun z => h (by rw [z]; exact List.mem_cons_self)), putN_new fun z => h (List.mem_cons_of_mem _ z)]
    rfl
theorem putX_new {A : Type} {f : Str} {a : A} : ∀ {ns : List Str} {xs : List A}, f ∉ ns → ns.length = xs.length → putX f a ns xs = xs ++ [a]
  | [], [], _, _ => rfl
  | [], _ :: _, _, h => by cases h
  | _ :: _, [], _, h => by cases h
  | n :: ns, x :: xs, h, hl => by
    show (if n = f then a :: xs else x :: putX f a ns xs) = _
    rw [if_neg (fun z => h (by rw [z]; exact List.mem_cons_self)), putX_new (fun z => h (List.mem_cons_of_mem _ z)) (by simpa using hl)]
    rfl
theorem fSet_end {c f : Str} {S : Sto} {ns : List Str} {xs : List Vl} {x : P} (h : f ∉ ns) (hl : ns.length = xs.length) (hn : ns.length < 1000) : fSet c f (.c S.length) (.p x) (S ++ [.ins c ns xs]) = .ok () (S ++ [.ins c (ns ++ [f]) (xs ++ [.p x])]) := by
  show putC c f S.length (.p x) (S ++ [.ins c ns xs]) = _
  unfold putC
  have e : (S ++ [Cell.ins c ns xs])[S.length]? = some (.ins c ns xs) := by simp
  rw [e]
  dsimp only
  rw [if_pos ⟨rfl, hn⟩, putN_new h, putX_new h hl]
  simp
end Mir
namespace Law
open PySem L2 Mir Pl
def spcP (n : Nat) (order near : List (List Nat)) : P := .obj "Space" ["told", "order", "seen"] [.str (textT n order near), .lst (txts order), .lst (nums (bitsL near))]
section
variable {n : Nat} {order near : List (List Nat)} (h : Spc n order near)
include h
end
end Law

namespace Law
open PySem L2 Mir Pl
section
variable {n : Nat} {order near : List (List Nat)} (h : Spc n order near)
include h
end
end Law

namespace Law
open PySem L2 Mir Pl
theorem fld_order (n : Nat) (order near : List (List Nat)) (S : Sto) : fldV "Space" "order" (.p (spcP n order near)) S = .ok (.p (.lst (txts order))) S := by
  unfold fldV spcP
  dsimp only
  rw [if_pos rfl]
  unfold fldOf
  rw [if_neg (by decide)]
  unfold fldOf
  rw [if_pos rfl]
theorem fld_seen (n : Nat) (order near : List (List Nat)) (S : Sto) : fldV "Space" "seen" (.p (spcP n order near)) S = .ok (.p (.lst (nums (bitsL near)))) S := by
  unfold fldV spcP
  dsimp only
  rw [if_pos rfl]
  unfold fldOf
  rw [if_neg (by decide)]
  unfold fldOf
  rw [if_neg (by decide)]
  unfold fldOf
  rw [if_pos rfl]
theorem fld_told (n : Nat) (order near : List (List Nat)) (S : Sto) : fldV "Space" "told" (.p (spcP n order near)) S = .ok (.p (.str (textT n order near))) S := by
  unfold fldV spcP
  dsimp only
  rw [if_pos rfl]
  unfold fldOf
  rw [if_pos rfl]
structure Lot (n : Nat) (l : List Nat) : Prop where
  srt : l.Pairwise (· < ·)
  lt : ∀ e ∈ l, e < n
theorem Lot.nd {n : Nat} {l : List Nat} (h : Lot n l) : l.Nodup := h.srt.imp fun z => Nat.ne_of_lt z
theorem Lot.len {n : Nat} {l : List Nat} (h : Lot n l) : l.length ≤ n := nodup_len n l h.nd h.lt
theorem Lot.bits {n : Nat} {l : List Nat} (h : Lot n l) : bitsN l < 2 ^ n := bits_lt h.nd h.lt
abbrev setP (order : List (List Nat)) (l : List Nat) : P := .tup (txts (pick order l))
section
variable {n : Nat} {order near : List (List Nat)} (h : Spc n order near)
include h
end
end Law

namespace Pl
end Pl
namespace Law
open PySem L2 Mir Pl
section
variable {n : Nat} {order near : List (List Nat)} (h : Spc n order near)
include h
end
end Law

namespace Pl
section
variable {n : Nat} {near : List (List Nat)} {l m : List Nat} {k : Nat}
open Law
variable (h : Near n near)
include h
end
end Pl

local macro_rules | `(tactic| exists cell_run) => `(tactic| first | with_reducible assumption | with_reducible exact Mir.cell0 | with_reducible exact Mir.cell1 | with_reducible exact Mir.cell2)
local macro_rules | `(tactic| exists sd_run) => `(tactic| first | assumption | omega | decide | solve_by_elim (transparency := .reducible) only [*] | (focus have := List.mem_range.mp (by assumption); omega) | (focus simp; done) | (focus simp; omega))
local macro_rules | `(tactic| exists op_run) => `(tactic| first
  | with_reducible assumption
  | with_reducible exact Mir.op_addN1 | with_reducible exact Mir.op_add1N | with_reducible exact Mir.op_addN | with_reducible exact Mir.op_add
  | (with_reducible apply Mir.op_addS) <;> exists sd_run | (with_reducible apply Mir.op_addLm) <;> exists sd_run | (with_reducible apply Mir.op_addTm) <;> exists sd_run | (with_reducible apply Mir.op_addL) <;> exists sd_run | (with_reducible apply Mir.op_addT) <;> exists sd_run
  | ((with_reducible apply Mir.op_sub1) <;> exists sq_run) | ((with_reducible apply Mir.op_subN) <;> exists sq_run) | ((with_reducible apply Mir.op_modN) <;> exists sq_run) | with_reducible exact Mir.op_int | with_reducible exact Mir.op_neg1 | with_reducible exact Mir.op_neg | with_reducible exact Mir.op_mul2 | with_reducible exact Mir.op_init | with_reducible exact Mir.op_eqL1
  | with_reducible exact Mir.op_band | with_reducible exact Mir.op_bandnot | with_reducible exact Mir.op_and1 | with_reducible exact Mir.op_pI | with_reducible exact Mir.op_inv
  | (with_reducible apply Mir.op_shl) <;> exists sd_run | with_reducible exact Mir.op_shr
  | with_reducible exact Mir.op_eqB | with_reducible exact Mir.op_neB | with_reducible exact Mir.op_niB | with_reducible exact Mir.op_is | with_reducible exact Mir.op_isNot
  | with_reducible exact Mir.op_eqB1 | with_reducible exact Mir.op_eqB0 | with_reducible exact Mir.op_eqN | with_reducible exact Mir.op_neN | with_reducible exact Mir.op_eqN0 | with_reducible exact Mir.op_neN0 | (with_reducible apply Mir.op_eqX) <;> exists dat_run | (with_reducible apply Mir.op_neX) <;> exists dat_run | ((with_reducible apply Mir.eqc_t); exact rfl) | ((with_reducible apply Mir.eqc_f); exact rfl) | ((with_reducible apply Mir.nec_t); exact rfl) | ((with_reducible apply Mir.nec_f); exact rfl) | with_reducible exact Mir.op_eqI | with_reducible exact Mir.op_neI
  | with_reducible exact Mir.op_ltN | with_reducible exact Mir.op_leN | with_reducible exact Mir.op_gtN | with_reducible exact Mir.op_geN | with_reducible exact Mir.op_pIB
  | (with_reducible apply Mir.op_neL0) <;> exists sd_run | (with_reducible apply Mir.op_eqL0) <;> exists sd_run | (with_reducible apply Mir.op_neT0) <;> exists sd_run | (with_reducible apply Mir.op_eqT0) <;> exists sd_run
  | ((with_reducible apply Mir.op_reprL) <;> exists dat_run)
  | (with_reducible apply Mir.op_eqX) <;> exists dat_run | (with_reducible apply Mir.op_neX) <;> exists dat_run
  | ((with_reducible apply Mir.eqc_t); exact rfl) | ((with_reducible apply Mir.eqc_f); exact rfl) | ((with_reducible apply Mir.nec_t); exact rfl) | ((with_reducible apply Mir.nec_f); exact rfl)
  | (with_reducible apply Mir.op_eqS) <;> exists sd_run | (with_reducible apply Mir.op_neS) <;> exists sd_run
  | (with_reducible apply Mir.op_eqTS) <;> exists sd_run | (with_reducible apply Mir.op_neTS) <;> exists sd_run
  | with_reducible exact Mir.op_inSL' | with_reducible exact Mir.op_inST' | with_reducible exact Mir.op_inNL' | with_reducible exact Mir.op_niSL' | with_reducible exact Mir.op_niST' | with_reducible exact Mir.op_niNL'
  | with_reducible exact Mir.op_inSL | with_reducible exact Mir.op_inST | with_reducible exact Mir.op_inNL | with_reducible exact Mir.op_niSL | with_reducible exact Mir.op_niST | with_reducible exact Mir.op_niNL
  | ((with_reducible apply Mir.inc_t); exact rfl) | ((with_reducible apply Mir.inc_f); exact rfl) | ((with_reducible apply Mir.nic_t); exact rfl) | ((with_reducible apply Mir.nic_f); exact rfl)
  | with_reducible exact Mir.op_lenLm | with_reducible exact Mir.op_lenTm | with_reducible exact Mir.op_lenL | with_reducible exact Mir.op_lenT | (with_reducible apply Mir.op_lenS) <;> exists sd_run
  | with_reducible exact Mir.op_tupL | with_reducible exact Mir.op_tupT | with_reducible exact Mir.op_lstL | with_reducible exact Mir.op_lstT
  | with_reducible exact Mir.op_sum | with_reducible exact Mir.op_all | with_reducible exact Mir.op_all2 | with_reducible exact Mir.op_any
  | with_reducible exact Mir.ix_l0 | with_reducible exact Mir.ix_l1 | with_reducible exact Mir.ix_l2 | with_reducible exact Mir.ix_l3 | with_reducible exact Mir.ix_l4 | with_reducible exact Mir.ix_l5 | with_reducible exact Mir.ix_t0 | with_reducible exact Mir.ix_t1 | with_reducible exact Mir.ix_t2 | with_reducible exact Mir.ix_t3
  | (with_reducible apply Mir.ix_ls) <;> exists sd_run | (with_reducible apply Mir.ix_ln) <;> exists sd_run | (with_reducible apply Mir.ix_ts) <;> exists sd_run | (with_reducible apply Mir.ix_lm) <;> exists sd_run
  | with_reducible assumption)
local macro_rules | `(tactic| exists call_run) => `(tactic| first | with_reducible assumption | (apply_assumption (transparency := .reducible) only [*] <;> first | with_reducible assumption | omega))
local macro_rules | `(tactic| exists rd_run) => `(tactic| first | with_reducible exact Mir.rd_p _ _ | with_reducible exact Mir.rds_nil _ | (with_reducible apply Mir.rds_c) <;> exists rd_run | exact Mir.rd_lst (by exists cell_run) | exact Mir.rd_fz (by exists cell_run))
local macro_rules | `(tactic| exists ev_run) => `(tactic| first
  | with_reducible exact Mir.ev_c
  | ((with_reducible apply Mir.ev_var); exact rfl)
  | with_reducible exact Mir.ev_anil
  | (with_reducible apply Mir.ev_acons) <;> exists ev_run
  | ((with_reducible apply Mir.ev_bin); exists ev_run; exists ev_run; exists rd_run; exists rd_run; exists op_run)
  | ((with_reducible apply Mir.ev_un); exists ev_run; exists rd_run; exists op_run)
  | ((with_reducible apply Mir.ev_item); exists ev_run; exists ev_run; exists ix_run)
  | ((with_reducible apply Mir.ev_call); exists ev_run; exists rd_run; exists op_run)
  | ((with_reducible apply Mir.ev_mth); exists ev_run; exists rd_run; exact rfl; exists ev_run; exists rd_run; exists rd_run; exists op_run)
  | ((with_reducible apply Mir.ev_fn); exists ev_run; exists call_run)
  | ((with_reducible apply Mir.ev_fnK); exists ev_run; exists ev_run; exact rfl; exact rfl; exists perm_run; exists call_run)
  | ((with_reducible apply Mir.ev_meth); exists ev_run; kernel_rfl; exists ev_run; exists call_run)
  | ((with_reducible apply Mir.ev_methK); exists ev_run; kernel_rfl; exists ev_run; exists ev_run; exact rfl; exact rfl; exists perm_run; exists call_run)
  | ((with_reducible apply Mir.ev_make); exists ev_run; exists call_run)
  | ((with_reducible apply Mir.ev_fld); exists ev_run; exists fld_run)
  | ((with_reducible apply Mir.ev_prop); exists ev_run; kernel_rfl; exists call_run)
  | ((with_reducible apply Mir.ev_tval); exists ev_run)
  | ((with_reducible apply Mir.ev_tand) <;> exists ev_run)
  | ((with_reducible apply Mir.ev_tor) <;> exists ev_run)
  | ((with_reducible apply Mir.ev_tnot); exists ev_run; exists not_run)
  | ((with_reducible apply Mir.ev_eand) <;> exists ev_run)
  | ((with_reducible apply Mir.ev_eor) <;> exists ev_run)
  | ((with_reducible apply Mir.ev_enot); exists ev_run; exists not_run)
  | ((with_reducible apply Mir.ev_if) <;> exists ev_run)
  | with_reducible exact Mir.andK_f | ((with_reducible apply Mir.andK_t); exists ev_run) | ((with_reducible apply Mir.andK_s); intro _; exists ev_run)
  | with_reducible exact Mir.orK_t | ((with_reducible apply Mir.orK_f); exists ev_run) | ((with_reducible apply Mir.orK_s); intro _; exists ev_run)
  | with_reducible exact Mir.eandK_f | ((with_reducible apply Mir.eandK_t); exists ev_run) | ((with_reducible apply Mir.eandK_s); intro _; exists ev_run)
  | with_reducible exact Mir.eorK_t | ((with_reducible apply Mir.eorK_f); exists ev_run) | ((with_reducible apply Mir.eorK_s); intro _; exists ev_run)
  | ((with_reducible apply Mir.ifK_t); exists ev_run) | ((with_reducible apply Mir.ifK_f); exists ev_run)
  | ((with_reducible apply Mir.ifK_yes); (with_reducible assumption); exists ev_run) | ((with_reducible apply Mir.ifK_no); (with_reducible assumption); exists ev_run)
  | ((with_reducible apply Mir.ifK_n) <;> (intro _; exists ev_run))
  | ((with_reducible apply Mir.ifK_i) <;> (intro _; exists ev_run))
  | ((with_reducible apply Mir.ifK_s) <;> (intro _; exists ev_run))
  | ((with_reducible apply Mir.ev_isN); exists ev_run; exact rfl)
  | ((with_reducible apply Mir.ev_notN); exists ev_run; exact rfl)
  | ((with_reducible apply Mir.ev_sl); exists ev_run; exists ev_run; exists ev_run; exists rd_run; exists op_run)
  | with_reducible exact Mir.ev_ono | ((with_reducible apply Mir.ev_oyes); exists ev_run)
  | ((with_reducible apply Mir.ev_tup); exists ev_run; exists fz_run; exists sd_run)
  | ((with_reducible apply Mir.ev_lst); exists ev_run; exists fz_run; exists sd_run)
  | ((with_reducible apply Mir.ev_lstC); exists ev_run; exists fz_run; exists sd_run)
  | ((with_reducible apply Mir.ev_itOf); exists ev_run; exists fz_run; exact rfl)
  | with_reducible exact Mir.rng_1 | with_reducible exact Mir.rng_2 | with_reducible exact Mir.rng_3 | with_reducible exact Mir.rng_4 | with_reducible exact Mir.rng_5 | with_reducible exact Mir.rng_6 | with_reducible exact Mir.rng_8
  | ((with_reducible apply Mir.ev_range1); exists ev_run; exists sd_run)
  | ((with_reducible apply Mir.ev_enumN); exists ev_run)
  | ((with_reducible apply Mir.ev_enumS); exists ev_run)
  | ((with_reducible apply Mir.ev_zip) <;> exists ev_run)
  | ((with_reducible apply Mir.ev_lcm); exists ev_run; exists sd_run; exists wipe_run; (intro _ _; exists ev_run); intro _ _; exists ev_run)
  | ((with_reducible apply Mir.ev_lc); exists ev_run; exists sd_run; exists wipe_run; (intro _ _; exists ev_run); (intro _ _; exists ev_run); intro _ _ _; exists ev_run)
  | ((with_reducible apply Mir.ev_lcx); exists ev_run; exists sd_run; exists wipe_run; exists lcx_run)
  | ((with_reducible apply Mir.ev_lc2); exists ev_run; exists sd_run; exists wipe_run; (intro _ _; exists ev_run); (intro _ _; exists ev_run); (intro _ _; exists sd_run); (intro _ _; exists wipe_run); (intro _ _ _ _; exists ev_run); intro _ _ _ _; exists ev_run)
  | ((with_reducible apply Mir.ev_rgL); exists ev_run; exists sd_run)
  | ((with_reducible apply Mir.ev_forx); exists ev_run; exists forx_run)
  | ((with_reducible apply Mir.ev_gnm); exists wipe_run)
  | ((with_reducible apply Mir.ev_gtp); exact rfl; exists wipe_run; exists ev_run)
  | with_reducible exact Mir.ev_gnl
  | ((with_reducible apply Mir.ev_gcn) <;> exists ev_run)
  | with_reducible exact Mir.ev_pass
  | ((with_reducible apply Mir.ev_expr); exists ev_run)
  | ((with_reducible apply Mir.ev_ret); exists ev_run)
  | with_reducible exact Mir.ev_retN
  | ((with_reducible apply Mir.ev_seq) <;> exists ev_run)
  | ((with_reducible apply Mir.thn_n); exists ev_run) | with_reducible exact Mir.thn_r
  | ((with_reducible apply Mir.ev_asg) <;> exists ev_run)
  | ((with_reducible apply Mir.ev_par); exists ev_run; exists wipe_run)
  | ((with_reducible apply Mir.ev_par3); exists ev_run; exists wipe_run)
  | ((with_reducible apply Mir.ev_parG); exists ev_run; exact rfl; decide; exists ev_run)
  | ((with_reducible apply Mir.ev_sif) <;> exists ev_run)
  | ((with_reducible apply Mir.ev_isi); exists ev_run; exists ev_run; exact rfl; exists isi_run))
local macro_rules | `(tactic| exists ix_run) => `(tactic| first
  | ((with_reducible apply Mir.ixv_p); exists op_run)
  | ((with_reducible apply Mir.ixv_l); exists cell_run; exists at_run) | ((with_reducible apply Mir.ixv_v); exists cell_run; exists at_run) | ((with_reducible apply Mir.ixv_f); exists cell_run; exists op_run))
local macro_rules | `(tactic| exists at_run) => `(tactic| first | with_reducible exact Mir.atI_0 _ _ | with_reducible exact Mir.atI_1 _ _ _ | with_reducible exact Mir.atI_2 _ _ _ _ | (with_reducible apply Mir.at_ms) <;> exists sd_run | (with_reducible apply Mir.at_mn) <;> exists sd_run | (with_reducible apply Mir.at_m0) <;> exists sd_run | with_reducible assumption)
local macro_rules | `(tactic| exists fz_run) => `(tactic| first | with_reducible exact Mir.fr_p | with_reducible exact Mir.frzs_z | (with_reducible apply Mir.frzs_s) <;> exists fz_run | exact Mir.frz_fz (by exists cell_run) | exact Mir.frz_lst (by exists cell_run))
local macro_rules | `(tactic| exists wipe_run) => `(tactic| first | (focus dsimp only [Mir.wipeE, List.set, List.map]; done) | (focus dsimp only [Mir.wipeE, List.set, List.map]; with_reducible exact rfl) | with_reducible exact rfl)
local macro_rules | `(tactic| exists perm_run) => `(tactic| first | (focus simp only [Mir.permL, List.map, List.cons_append, List.nil_append, List.getD_cons_zero, List.getD_cons_succ]; done) | (focus simp only [Mir.permL, List.map, List.cons_append, List.nil_append, List.getD_cons_zero, List.getD_cons_succ]; with_reducible exact rfl))
local macro_rules | `(tactic| exists fld_run) => `(tactic| first | with_reducible assumption | apply_assumption (transparency := .reducible) only [*])
local macro_rules | `(tactic| exists def_run) => `(tactic| ((with_reducible apply Mir.ev_mkF); exact rfl; (first | (focus dsimp only [List.map, List.replicate, List.cons_append, List.nil_append]; done) | (focus dsimp only [List.map, List.replicate, List.cons_append, List.nil_append]; with_reducible exact rfl)); exists ev_run; exists end_run))
local macro_rules | `(tactic| exists end_run) => `(tactic| first | with_reducible exact Mir.end_self | with_reducible exact Mir.end_nx | with_reducible exact Mir.end_app | with_reducible exact Mir.end_nxa)
local macro_rules | `(tactic| exists fun_run) => `(tactic| (apply Eq.trans; exists def_run; first | with_reducible exact rfl | skip))
local macro_rules | `(tactic| exists lcx_run) => `(tactic| first | with_reducible exact Mir.lcx_nil | ((with_reducible apply Mir.lcx_yes); exists ev_run; exists ev_run; exists fz_run; exists lcx_run) | ((with_reducible apply Mir.lcx_s); exists ev_run; exists ev_run; (intro _; exists ev_run); exists lcx_run))
local macro_rules | `(tactic| exists dat_run) => `(tactic| first | with_reducible assumption | exact rfl)
local macro_rules | `(tactic| exists not_run) => `(tactic| first | with_reducible exact Bool.not_true | with_reducible exact Bool.not_false | with_reducible exact rfl)
local macro_rules | `(tactic| exists forx_run) => `(tactic| first | with_reducible exact Mir.forx_nil | ((with_reducible apply Mir.forx_cons); exists ev_run; exists ev_run; exists forx_run))
local macro_rules | `(tactic| exists isi_run) => `(tactic| first | ((with_reducible apply Mir.isi_t); exact rfl) | ((with_reducible apply Mir.isi_f); exact rfl))
local macro_rules | `(tactic| exists sq_run) => `(tactic| first | assumption | omega | (focus have := List.mem_range.mp (by assumption); omega))

namespace Law
open PySem L2 Mir Pl
theorem fldn_order (n : Nat) (order near : List (List Nat)) (S : Sto) : fldV "Space" "order" (nv S (.p (spcP n order near))) S = .ok (.p (.lst (txts order))) S := fld_order n order near S
theorem fldn_seen (n : Nat) (order near : List (List Nat)) (S : Sto) : fldV "Space" "seen" (nv S (.p (spcP n order near))) S = .ok (.p (.lst (nums (bitsL near)))) S := fld_seen n order near S
theorem fldn_told (n : Nat) (order near : List (List Nat)) (S : Sto) : fldV "Space" "told" (nv S (.p (spcP n order near))) S = .ok (.p (.str (textT n order near))) S := fld_told n order near S
end Law
local macro_rules | `(tactic| exists fld_run) => `(tactic| first | with_reducible exact Law.fldn_order _ _ _ _ | with_reducible exact Law.fldn_seen _ _ _ _ | with_reducible exact Law.fldn_told _ _ _ _)

namespace Law
open PySem L2 Mir Pl
section
variable {n : Nat} {order near : List (List Nat)} (h : Spc n order near)
include h
end
end Law

namespace Law
open PySem L2 Mir Pl
end Law

namespace Law
open PySem L2 Mir Pl
section
variable {n : Nat} {order near : List (List Nat)} (h : Spc n order near)
include h
theorem Spc.pick_nm {l : List Nat} (hl : Lot n l) : ∀ x ∈ pick order l, NameOk x := fun x hx => by
  obtain ⟨j, hj, rfl⟩ := List.mem_map.mp hx
  exact h.at_ (hl.lt j hj)
theorem Spc.dat {l : List Nat} (hl : Lot n l) (m : Nat) : (setP order l).dat (m + 1) = true := datL_of fun x hx => (h.pick_nm hl x hx).asc
theorem Spc.sz {l : List Nat} (hl : Lot n l) : (setP order l).sz ≤ 22000 := by
  show szL _ + 4 ≤ 22000
  have h1 := szL_map (f := P.str) (c := 82) (l := pick order l) fun x hx => by
    have := (h.pick_nm hl x hx).len
    show 10 * x.length + 2 ≤ 82
    omega
  have h2 := hl.len
  have h3 := h.le
  have h4 : (pick order l).length = l.length := by unfold pick; rw [List.length_map]
  unfold txts
  omega
end
end Law

namespace Pl
def lotsN : Nat → List (List Nat)
  | 0 => [[]]
  | k + 1 => lotsN k ++ (lotsN k).map fun l => l ++ [k]
open Law in
theorem lotsN_lot : ∀ n, ∀ l ∈ lotsN n, Lot n l
  | 0, l, h => by
    have h : l ∈ [[]] := h
    simp at h
    subst h
    exact ⟨.nil, fun e he => by cases he⟩
  | k + 1, l, h => by
    have h : l ∈ lotsN k ++ (lotsN k).map fun l => l ++ [k] := h
    rcases List.mem_append.mp h with h | h
    · have := lotsN_lot k l h
      exact ⟨this.srt, fun e he => Nat.lt_succ_of_lt (this.lt e he)⟩
    · obtain ⟨m, hm, rfl⟩ := List.mem_map.mp h
      have := lotsN_lot k m hm
      refine ⟨List.pairwise_append.mpr ⟨this.srt, List.pairwise_singleton _ _, fun a ha b hb => ?_⟩, fun e he => ?_⟩
      · rw [List.mem_singleton] at hb
        subst hb
        exact this.lt a ha
      · rcases List.mem_append.mp he with z | z
        · exact Nat.lt_succ_of_lt (this.lt e z)
        · rw [List.mem_singleton] at z
          omega
end Pl
namespace Law
open PySem L2 Mir Pl
end Law

namespace Law
open PySem L2 Mir Pl
theorem end_len {S S1 : Sto} {x : P} (h : S1.length = S.length) : endF S.length (.ok (.rt (.p x)) S1) = .ok (.p x) S1 := by
  rw [endF_p, take_len h]
section
variable {n : Nat} {order near : List (List Nat)} (h : Spc n order near)
include h
end
end Law

namespace Mir
open L2
end Mir
namespace Law
open PySem L2 Mir Pl
end Law

namespace Pl
end Pl
namespace Law
open PySem L2 Mir Pl
def KW : List (List Nat) := [[97, 108, 108], [109, 101, 101, 116, 105, 110, 103], [112, 105, 110, 110, 101, 100], [98, 111, 116, 104], [112, 97, 114, 116, 101, 100], [112, 108, 97, 105, 110]]
theorem check_kind_of {k : List Nat} (h : ∀ S, b_check_kind [some (.p (.str k))] S = .ok (.nx [some (.p (.str k))]) S) (S : Sto) : m_check_kind [.p (.str k)] S = .ok (.p .non) S := by
  unfold m_check_kind
  exact ev_mkF rfl rfl (h S) end_nx
theorem check_kind_ok {k : List Nat} (h : k ∈ KW) (S : Sto) : m_check_kind [.p (.str k)] S = .ok (.p .non) S := by
  unfold KW at h
  simp only [List.mem_cons, List.not_mem_nil, or_false] at h
  rcases h with rfl | rfl | rfl | rfl | rfl | rfl <;> exact check_kind_of (fun S => by kernel_rfl) S
section
variable {n : Nat} {near : List (List Nat)} (h : Near n near) (hn : n ≤ 256)
include h hn
end
end Law

namespace Law
open PySem L2 Mir Pl
section
variable {n : Nat} {near : List (List Nat)} (h : Near n near) (hn : n ≤ 256)
include h hn
end
section
variable {n : Nat} {order near : List (List Nat)} (h : Spc n order near)
include h
end
end Law

namespace Pl
open Law
theorem lotsN_all : ∀ (n : Nat) (l : List Nat), Lot n l → l ∈ lotsN n
  | 0, l, h => by
    have : l = [] := by
      cases l with
      | nil => rfl
      | cons a l => exact absurd (h.lt a List.mem_cons_self) (by omega)
    subst this
    exact List.mem_cons_self
  | n + 1, l, h => by
    show l ∈ lotsN n ++ (lotsN n).map fun l => l ++ [n]
    by_cases hm : n ∈ l
    · refine List.mem_append_right _ (List.mem_map.mpr ⟨l.filter fun e => decide (e < n), lotsN_all n _ ⟨h.srt.filter _, fun e he => of_decide_eq_true (List.mem_filter.mp he).2⟩, ?_⟩)
      refine sorted_eq (List.pairwise_append.mpr ⟨h.srt.filter _, List.pairwise_singleton _ _, fun a ha b hb => ?_⟩) h.srt fun e => ?_
      · rw [List.mem_singleton] at hb
        subst hb
        exact of_decide_eq_true (List.mem_filter.mp ha).2
      · rw [List.mem_append, List.mem_filter, List.mem_singleton]
        constructor
        · rintro (⟨z, _⟩ | rfl)
          · exact z
          · exact hm
        · intro z
          have := h.lt e z
          by_cases q : e = n
          · exact .inr q
          · exact .inl ⟨z, decide_eq_true (by omega)⟩
    · refine List.mem_append_left _ (lotsN_all n l ⟨h.srt, fun e he => ?_⟩)
      have := h.lt e he
      have : e ≠ n := fun q => hm (by rw [← q]; exact he)
      omega
theorem all_lots {n : Nat} {p : List Nat → Bool} : (lotsN n).all p = true ↔ ∀ l, Lot n l → p l = true := by
  rw [List.all_eq_true]
  exact ⟨fun h l hl => h l (lotsN_all n l hl), fun h l hl => h l (lotsN_lot n l hl)⟩
section
variable {n : Nat} {near : List (List Nat)}
variable (h : Near n near)
include h
end
end Pl

namespace Law
open PySem L2 Mir Pl
def okV : P → Bool
  | .non => true
  | .bl _ => true
  | .int _ => true
  | .str _ => true
  | .tup _ => true
  | .lst _ => true
  | .dct _ _ => true
  | .obj c _ _ => isiCs.contains c
  | _ => false
def isStrP : P → Bool
  | .str _ => true
  | _ => false
theorem isi_str {x : P} (h : okV x = true) (S : Sto) : ∃ T, tgOf S (nv S (.p x)) = some T ∧ isT isiCs T (.ty "str") = some (isStrP x) := by
  cases x with
  | obj c ns xs =>
    refine ⟨.o c, rfl, ?_⟩
    have h : isiCs.contains c = true := h
    unfold isT
    dsimp only
    rw [if_pos ⟨List.contains_iff_mem.mp h, by decide⟩]
    rfl
  | ty _ => cases h
  | glo _ => cases h
  | raw _ => cases h
  | rwp _ _ => cases h
  | scr _ => cases h
  | _ => exact ⟨_, rfl, rfl⟩
theorem occ1 (c : Nat) (tx : List Nat) : occB [c] tx = tx.contains c := by
  unfold occB
  have := PySem.StrLaws.found_one (strOf tx) c
  rw [show strOf [c] = ⟨#[c]⟩ from rfl, this, Bool.eq_iff_iff, decide_eq_true_iff, List.contains_iff_mem]
  show c ∈ (strOf tx).cps.toList ↔ _
  rw [show (strOf tx).cps.toList = tx by unfold strOf; simp]
theorem in1 (c : Nat) (tx : List Nat) : pIn (.str [c]) (.str tx) = some (.bl (tx.contains c)) := by
  show some (P.bl (occB [c] tx)) = _
  rw [occ1]
end Law

namespace Law
open PySem L2 Mir Pl
end Law

namespace Law
open PySem L2 Mir Pl
section
variable {n : Nat} {order near : List (List Nat)} (h : Spc n order near)
include h
end
end Law

namespace Law
open PySem L2 Mir Pl
structure RwS (S : Sto) (kr kl kf : Nat) (L : List Row) : Prop where
  ins : S[kr]? = some (.ins "Rows" ["listed", "found"] [.c kl, .c kf])
  lst : S[kl]? = some (.lst (L.map rwP))
  dct : S[kf]? = some (.dcT (L.map rwK) (nums (List.range L.length)))
theorem nv_ins {S : Sto} {k : Nat} {c : Str} {ns : List Str} {xs : List Vl} (h : S[k]? = some (.ins c ns xs)) : nv S (.c k) = .c k := by
  unfold nv
  dsimp only
  rw [h]
section
variable {S : Sto} {kr kl kf : Nat} {L : List Row}
theorem RwS.listed (h : RwS S kr kl kf L) : fldV "Rows" "listed" (nv S (.c kr)) S = .ok (.c kl) S := by
  rw [nv_ins h.ins]
  unfold fldV
  dsimp only
  rw [h.ins]
  dsimp only
  rw [if_pos rfl]
  unfold fldOf
  rw [if_pos rfl]
theorem RwS.found (h : RwS S kr kl kf L) : fldV "Rows" "found" (nv S (.c kr)) S = .ok (.c kf) S := by
  rw [nv_ins h.ins]
  unfold fldV
  dsimp only
  rw [h.ins]
  dsimp only
  rw [if_pos rfl]
  unfold fldOf
  rw [if_neg (by decide)]
  unfold fldOf
  rw [if_pos rfl]
theorem dKey_tup {i : Nat} {r : Row} (h : S[i]? = some (.tup (rwPs r))) : dKey S (.c i) = some (rwK r) := by
  unfold dKey
  dsimp only
  rw [h]
  dsimp only
  exact kys_row r
theorem at_rows (r : Row) (L : List Row) : atKy (rwK r) (L.map rwK) (nums (List.range L.length)) = if r ∈ L then some (P.int ((L.idxOf r : Nat) : Int)) else none := by
  have := atKy_row r L 0
  rw [Nat.zero_add, ← List.range_eq_range'] at this
  exact this
theorem RwS.at (h : RwS S kr kl kf L) {i : Nat} {r : Row} (hi : S[i]? = some (.tup (rwPs r))) : dAt S (.c i) (.c kf) = if r ∈ L then some (P.int ((L.idxOf r : Nat) : Int)) else none := by
  unfold dAt
  rw [dKey_tup hi]
  dsimp only
  rw [h.dct]
  dsimp only
  exact at_rows r L
theorem RwS.has (h : RwS S kr kl kf L) {i : Nat} {r : Row} (hi : S[i]? = some (.tup (rwPs r))) : dHas S (.c i) (.c kf) = some (decide (r ∈ L)) := by
  unfold dHas
  rw [dKey_tup hi]
  dsimp only
  rw [h.dct]
  dsimp only
  rw [at_rows]
  by_cases z : r ∈ L
  · rw [if_pos z]; simp [z]
  · rw [if_neg z]; simp [z]
theorem RwS.put (h : RwS S kr kl kf L) {i : Nat} {r : Row} (hi : S[i]? = some (.tup (rwPs r))) (hr : r ∉ L) (hL : L.length < 1000) : dPut S (.c i) (.c kf) (.int ((L.length : Nat) : Int)) = some (S.set kf (.dcT ((L ++ [r]).map rwK) (nums (List.range (L ++ [r]).length)))) := by
  unfold dPut
  rw [dKey_tup hi]
  dsimp only
  rw [h.dct]
  dsimp only
  rw [at_rows, if_neg hr, if_pos ⟨rfl, by rw [List.length_map]; omega⟩]
  congr 2
  have e1 : (L ++ [r]).map rwK = L.map rwK ++ [rwK r] := by simp
  have e2 : nums (List.range (L ++ [r]).length) = nums (List.range L.length) ++ [.int ((L.length : Nat) : Int)] := by
    rw [List.length_append]
    show nums (List.range (L.length + 1)) = _
    rw [List.range_succ]
    unfold nums
    simp
  rw [e1, e2]
theorem ne_of_at {i j : Nat} {x y : Cell} (h : S[i]? = some x) (h2 : S[j]? = some y) (hxy : x ≠ y) : i ≠ j := fun z => by
  subst z
  rw [h] at h2
  exact hxy (Option.some.inj h2)
theorem lt_of_at {i : Nat} {x : Cell} (h : S[i]? = some x) : i < S.length := (List.getElem?_eq_some_iff.mp h).1
theorem rnumber_ok (h : RwS S kr kl kf L) {i : Nat} {r : Row} (hi : S[i]? = some (.tup (rwPs r))) (hL : L.length < 1000) :
    ∃ S', m_Rows_number_of [.c kr, .c i] S = .ok (.p (.int ((L.idxOf r : Nat) : Int))) S' ∧ RwS S' kr kl kf (numL L r) ∧ S'.length = S.length ∧ ∀ j, j ≠ kl → j ≠ kf → S'[j]? = S[j]? := by
  have f1 := h.listed
  have f2 := h.found
  have d1 := h.has hi
  have d2 := h.at hi
  by_cases hr : r ∈ L
  · refine ⟨S, ?_, ?_, rfl, fun _ _ _ => rfl⟩
    · unfold m_Rows_number_of b_Rows_number_of
      refine ws_mkFe (ρ := [some (.c kr), some (.c i)]) rfl rfl ?_
      rw [if_pos hr] at d2
      have t1 : tVal (eNotInT (eVar 1) (eFld "Rows" "found" (eVar 0))) [some (.c kr), some (.c i)] S = .ok false S := ev_tval (ev_notInT (q := true) (ev_var rfl) (ev_fld (ev_var rfl) f2) (by rw [d1]; simp [hr]) rfl)
      refine ws_seq (ev_sif t1 (ifK_f ev_pass)) ?_
      exact ws_of (ev_ret (ev_itemT (ev_fld (ev_var rfl) f2) (ev_var rfl) d2)) (end_len rfl)
    · unfold numL
      rw [if_pos hr]
      exact h
  · have n1 : kl ≠ kf := ne_of_at h.lst h.dct (by simp)
    have n2 : kr ≠ kl := ne_of_at h.ins h.lst (by simp)
    have n3 : kr ≠ kf := ne_of_at h.ins h.dct (by simp)
    have n4 : i ≠ kl := ne_of_at hi h.lst (by simp)
    have n5 : i ≠ kf := ne_of_at hi h.dct (by simp)
    have p1 := h.put hi hr hL
    have hf := lt_of_at h.dct
    have hl := lt_of_at h.lst
    have rs : RwS ((S.set kf (.dcT ((L ++ [r]).map rwK) (nums (List.range (L ++ [r]).length)))).set kl (.lst ((L ++ [r]).map rwP))) kr kl kf (L ++ [r]) := by
      refine ⟨?_, ?_, ?_⟩
      · rw [List.getElem?_set_ne (Ne.symm n2), List.getElem?_set_ne (Ne.symm n3)]; exact h.ins
      · rw [List.getElem?_set_self (by rw [List.length_set]; exact hl)]
      · rw [List.getElem?_set_ne n1, List.getElem?_set_self hf]
    have hi2 : ((S.set kf (.dcT ((L ++ [r]).map rwK) (nums (List.range (L ++ [r]).length)))).set kl (.lst ((L ++ [r]).map rwP)))[i]? = some (.tup (rwPs r)) := by
      rw [List.getElem?_set_ne (Ne.symm n4), List.getElem?_set_ne (Ne.symm n5)]; exact hi
    refine ⟨(S.set kf (.dcT ((L ++ [r]).map rwK) (nums (List.range (L ++ [r]).length)))).set kl (.lst ((L ++ [r]).map rwP)), ?_, ?_, ?_, fun j hj hj2 => ?_⟩
    · unfold m_Rows_number_of b_Rows_number_of
      refine ws_mkFe (ρ := [some (.c kr), some (.c i)]) rfl rfl ?_
      have t1 : tVal (eNotInT (eVar 1) (eFld "Rows" "found" (eVar 0))) [some (.c kr), some (.c i)] S = .ok true S := ev_tval (ev_notInT (q := false) (ev_var rfl) (ev_fld (ev_var rfl) f2) (by rw [d1]; simp [hr]) rfl)
      have l1 : eCall pLen (aCons (eFld "Rows" "listed" (eVar 0)) aNil) [some (.c kr), some (.c i)] S = .ok (.p (.int ((L.length : Nat) : Int))) S := ev_call (ev_acons (ev_fld (ev_var rfl) f1) ev_anil) (rds_c (rd_lst h.lst) (rds_nil _)) op_lenLm
      have s1 : sPutT (eCall pLen (aCons (eFld "Rows" "listed" (eVar 0)) aNil)) (eFld "Rows" "found" (eVar 0)) (eVar 1) [some (.c kr), some (.c i)] S = .ok (.nx [some (.c kr), some (.c i)]) (S.set kf (.dcT ((L ++ [r]).map rwK) (nums (List.range (L ++ [r]).length)))) := ev_putT l1 (ev_fld (ev_var rfl) f2) (ev_var rfl) p1
      have k1 : (S.set kf (.dcT ((L ++ [r]).map rwK) (nums (List.range (L ++ [r]).length))))[kl]? = some (.lst (L.map rwP)) := by
        rw [List.getElem?_set_ne (Ne.symm n1)]; exact h.lst
      have k2 : (S.set kf (.dcT ((L ++ [r]).map rwK) (nums (List.range (L ++ [r]).length))))[kr]? = some (.ins "Rows" ["listed", "found"] [.c kl, .c kf]) := by
        rw [List.getElem?_set_ne (Ne.symm n3)]; exact h.ins
      have k3 : (S.set kf (.dcT ((L ++ [r]).map rwK) (nums (List.range (L ++ [r]).length))))[i]? = some (.tup (rwPs r)) := by
        rw [List.getElem?_set_ne (Ne.symm n5)]; exact hi
      have f3 : fldV "Rows" "listed" (nv (S.set kf (.dcT ((L ++ [r]).map rwK) (nums (List.range (L ++ [r]).length)))) (.c kr)) (S.set kf (.dcT ((L ++ [r]).map rwK) (nums (List.range (L ++ [r]).length)))) = .ok (.c kl) (S.set kf (.dcT ((L ++ [r]).map rwK) (nums (List.range (L ++ [r]).length)))) := by
        rw [nv_ins k2]
        unfold fldV
        dsimp only
        rw [k2]
        dsimp only
        rw [if_pos rfl]
        unfold fldOf
        rw [if_pos rfl]
      have a1 := app_t k1 k3 (by rw [List.length_map]; omega)
      have ea : L.map rwP ++ [P.tup (rwPs r)] = (L ++ [r]).map rwP := by simp [rwP]
      rw [ea] at a1
      refine ws_seq (ev_sif t1 (ifK_t (ev_seq s1 (thn_n (ev_expr (ev_mut (ev_fld (ev_var rfl) f3) (isL_c k1) (ev_acons (ev_var rfl) ev_anil) a1)))))) ?_
      have d3 := rs.at hi2
      rw [if_pos (by simp)] at d3
      have ex : (L ++ [r]).idxOf r = L.idxOf r := by
        rw [List.idxOf_append, if_neg hr, List.idxOf_cons_self, List.idxOf_eq_length hr]
        omega
      rw [ex] at d3
      exact ws_of (ev_ret (ev_itemT (ev_fld (ev_var rfl) rs.found) (ev_var rfl) d3)) (end_len (by simp))
    · unfold numL
      rw [if_neg hr]
      exact rs
    · simp
    · rw [List.getElem?_set_ne (Ne.symm hj), List.getElem?_set_ne (Ne.symm hj2)]
end
end Law

namespace Law
open PySem L2 Mir Pl
def tdV : Option Nat → Vl
  | none => .p .non
  | some r => .p (.int (r : Int))
def enR (kr ko : Nat) (tx : List Nat) (told : Option Nat) (pos : Nat) (a5 : Option Vl) : En := [some (.c kr), some (.p (.str tx)), some (tdV told), some (.c ko), some (.p (.int (pos : Int))), a5]
abbrev tsR1 : MT := (tAndM (tVal (eIsN (eVar 2))) (tVal (eBin pIn2 (eVar 5) (eC (.tup [(.str [120]), (.str [121]), (.str [122]), (.str [48]), (.str [49])])))))
abbrev tsR2 : MT := (tAndM (tVal (eIsN (eVar 2))) (tAndM (tVal (eBin pIn2 (eVar 5) (eC (.tup [(.str [99]), (.str [105]), (.str [110])])))) (tVal (eBin pEq (eSl (eVar 1) (oYes (eBin pAdd (eVar 4) (eC (.int 1)))) (oYes (eBin pAdd (eVar 4) (eC (.int 2))))) (eC (.str [40]))))))
abbrev tsR3 : MT := (tAndM (tVal (eIsN (eVar 2))) (tVal (eBin pEq (eVar 5) (eC (.str [40])))))
abbrev tsR4 : MT := (tOrM (tVal (eIsN (eVar 2))) (tVal (eBin pEq (eVar 3) (eLst aNil))))
abbrev tsR5 : MT := (tAndM (tVal (eBin pEq (eVar 5) (eC (.str [41])))) (tVal (eBin pNe (eItem (eItem (eVar 3) (eUn pNeg (eC (.int 1)))) (eC (.int 0))) (eC (.str [40])))))
abbrev tsR6 : MT := (tAndM (tVal (eBin pEq (eItem (eVar 3) (eUn pNeg (eC (.int 1)))) (eTup (aCons (eC (.str [40])) aNil)))) (tVal (eBin pIn2 (eSl (eVar 1) (oYes (eVar 4)) (oYes (eBin pAdd (eVar 4) (eC (.int 3))))) (eTup (aCons (eC (.str [32, 38, 32])) (aCons (eC (.str [32, 124, 32])) aNil))))))
abbrev bdR1 : MS := (sPar 2 4 (aCons (eMeth "Rows" "number_of" m_Rows_number_of (eVar 0) (aCons (eTupT (aCons (eVar 5) aNil)) aNil)) (aCons (eBin pAdd (eVar 4) (eC (.int 1))) aNil)))
abbrev bdR2 : MS := (sSeq (sExpr (eMut isL fApp (eVar 3) (aCons (eTup (aCons (eVar 5) aNil)) aNil))) (sAsg (eBin pAdd (eVar 4) (eC (.int 2))) (gNm 4)))
abbrev bdR3 : MS := (sSeq (sExpr (eMut isL fApp (eVar 3) (aCons (eTup (aCons (eC (.str [40])) aNil)) aNil))) (sAsg (eBin pAdd (eVar 4) (eC (.int 1))) (gNm 4)))
abbrev bdR5 : MS := (sPar 2 4 (aCons (eMeth "Rows" "number_of" m_Rows_number_of (eVar 0) (aCons (eTupT (aStar (eMut isL fPop (eVar 3) aNil) (aCons (eVar 2) aNil))) aNil)) (aCons (eBin pAdd (eVar 4) (eC (.int 1))) aNil)))
abbrev bdR6 : MS := (sSeq (sAsg (eTup (aCons (eItem (eVar 1) (eBin pAdd (eVar 4) (eC (.int 1)))) (aCons (eVar 2) aNil))) (gSubM (eVar 3) (eUn pNeg (eC (.int 1))))) (sPar 2 4 (aCons (eC .non) (aCons (eBin pAdd (eVar 4) (eC (.int 3))) aNil))))
abbrev bdR : MS := sSeq (sAsg (eItem (eVar 1) (eVar 4)) (gNm 5)) (sIf tsR1 bdR1 (sIf tsR2 bdR2 (sIf tsR3 bdR3 (sIf tsR4 (sRet (eC .non)) (sIf tsR5 bdR5 (sIf tsR6 bdR6 (sRet (eC .non))))))))
section
variable {S : Sto} {kr kl kf ko : Nat} {L : List Row}
theorem RwS.app (h : RwS S kr kl kf L) (c : List Cell) : RwS (S ++ c) kr kl kf L := by
  have a := lt_of_at h.ins
  have b := lt_of_at h.lst
  have d := lt_of_at h.dct
  exact ⟨by rw [List.getElem?_append_left a]; exact h.ins, by rw [List.getElem?_append_left b]; exact h.lst, by rw [List.getElem?_append_left d]; exact h.dct⟩
theorem RwS.set (h : RwS S kr kl kf L) {k : Nat} {c : Cell} (h1 : k ≠ kr) (h2 : k ≠ kl) (h3 : k ≠ kf) : RwS (S.set k c) kr kl kf L :=
  ⟨by rw [List.getElem?_set_ne h1]; exact h.ins, by rw [List.getElem?_set_ne h2]; exact h.lst, by rw [List.getElem?_set_ne h3]; exact h.dct⟩
structure PI (S0 : Sto) (kr kl kf ko : Nat) (q : PSt) (S : Sto) : Prop where
  rs : RwS S kr kl kf q.L
  op : S[ko]? = some (.lst (q.op.reverse.map rwP))
  fr : ∀ j, j < S0.length → j ≠ kl → j ≠ kf → S[j]? = S0[j]?
  asc : ∀ f ∈ q.op, f.1 < 128 ∧ f.2.length ≤ 1
  smL : q.L.length ≤ q.pos + 600
  smO : q.op.length ≤ q.pos
theorem cut_nat {A : Type} (xs : List A) (i j : Nat) (h : i ≤ j) : cutP xs (some (i : Int)) (some (j : Int)) = (xs.drop i).take (j - i) := by
  unfold cutP
  rw [HT.sIx_nat, HT.sIx_nat]
  by_cases hi : i ≤ xs.length
  · rw [Nat.min_eq_left hi]
    by_cases hj : j ≤ xs.length
    · rw [Nat.min_eq_left hj]
    · rw [Nat.min_eq_right (by omega)]
      have e1 : ((xs.drop i).take (xs.length - i)) = xs.drop i := List.take_of_length_le (by simp)
      rw [e1, List.take_of_length_le]
      simp
      omega
  · rw [Nat.min_eq_right (by omega : xs.length ≤ i), Nat.min_eq_right (by omega : xs.length ≤ j), List.drop_eq_nil_of_le (by omega : xs.length ≤ i), List.drop_eq_nil_of_le (Nat.le_refl _)]
    simp
theorem add_lit {n : Nat} (k : Nat) : pAdd (.int (n : Int)) (.int ((k : Nat) : Int)) = some (.int ((n + k : Nat) : Int)) := op_addN
theorem asc_one {c : Nat} (h : c < 128) : asc [c] = true := by
  unfold asc
  simp
  omega
theorem asc_all {l : List Nat} (h : ∀ c ∈ l, c < 128) : asc l = true := by
  unfold asc
  rw [List.all_eq_true]
  intro c hc
  have := h c hc
  simp
  omega
end
end Law

namespace Law
open PySem L2 Mir Pl
section
variable {S : Sto} {kr kl kf ko : Nat} {L : List Row} {tx : List Nat} {told : Option Nat} {pos sg : Nat}
theorem isN_td : isN (tdV told) = told.isNone := by cases told <;> rfl
theorem in_plain : pIn2 (.str [sg]) (.tup [(.str [120]), (.str [121]), (.str [122]), (.str [48]), (.str [49])]) = some (.bl (decide (sg ∈ plainS))) := by
  have := op_inST' (x := [sg]) (l := [[120], [121], [122], [48], [49]])
  refine this.trans ?_
  unfold plainS
  simp
theorem in_deed : pIn2 (.str [sg]) (.tup [(.str [99]), (.str [105]), (.str [110])]) = some (.bl (decide (sg ∈ deedS))) := by
  have := op_inST' (x := [sg]) (l := [[99], [105], [110]])
  refine this.trans ?_
  unfold deedS
  simp
theorem eq_one (h : sg < 128) (c : Nat) (hc : c < 128) : pEq (.str [sg]) (.str [c]) = some (.bl (decide (sg = c))) := by
  rw [op_eqS (asc_one h) (asc_one hc)]
  by_cases z : sg = c
  · subst z; simp
  · simp [z]
theorem ne_one (h : sg < 128) (c : Nat) (hc : c < 128) : pNe (.str [sg]) (.str [c]) = some (.bl (!decide (sg = c))) := by
  rw [op_neS (asc_one h) (asc_one hc)]
  by_cases z : sg = c
  · subst z; simp
  · simp [z]
theorem sl_txt (hl : tx.length ≤ 300) (i j : Nat) (h : i ≤ j) : pSl (some (i : Int)) (some (j : Int)) (.str tx) = some (.str ((tx.drop i).take (j - i))) := by
  show (if tx.length ≤ 100000 then some (P.str (cutP tx (some (i : Int)) (some (j : Int)))) else none) = _
  rw [if_pos (by omega), cut_nat _ _ _ h]
theorem asc_sub (ha : ∀ c ∈ tx, c < 128) (i j : Nat) : asc ((tx.drop i).take j) = true := asc_all fun c hc => ha c (List.mem_of_mem_drop (List.mem_of_mem_take hc))
theorem ts1 : tsR1 (enR kr ko tx told pos (some (.p (.str [sg])))) S = .ok (told.isNone && decide (sg ∈ plainS)) S := by
  refine ev_tand (ev_tval (ev_isN (ev_var rfl) isN_td)) (andK_s fun _ => ?_)
  exact ev_tval (ev_bin (ev_var rfl) ev_c rfl rfl in_plain)
theorem ts2 (hl : tx.length ≤ 300) (ha : ∀ c ∈ tx, c < 128) : tsR2 (enR kr ko tx told pos (some (.p (.str [sg])))) S = .ok (told.isNone && (decide (sg ∈ deedS) && decide ((tx.drop (pos + 1)).take 1 = [40]))) S := by
  refine ev_tand (ev_tval (ev_isN (ev_var rfl) isN_td)) (andK_s fun _ => ?_)
  refine ev_tand (ev_tval (ev_bin (ev_var rfl) ev_c rfl rfl in_deed)) (andK_s fun _ => ?_)
  have e : pEq (.str ((tx.drop (pos + 1)).take 1)) (.str [40]) = some (.bl (decide ((tx.drop (pos + 1)).take 1 = [40]))) := by
    rw [op_eqS (asc_sub ha _ _) (by decide)]
    by_cases z : (tx.drop (pos + 1)).take 1 = [40]
    · rw [z]; simp
    · simp [z]
  have e2 : pSl (some ((pos + 1 : Nat) : Int)) (some ((pos + 2 : Nat) : Int)) (.str tx) = some (.str ((tx.drop (pos + 1)).take 1)) := by
    rw [sl_txt hl _ _ (by omega)]
    have : pos + 2 - (pos + 1) = 1 := by omega
    rw [this]
  exact ev_tval (ev_bin (ev_sl (ev_var rfl) (ev_oyes (ev_bin (ev_var rfl) ev_c rfl rfl (add_lit 1))) (ev_oyes (ev_bin (ev_var rfl) ev_c rfl rfl (add_lit 2))) rfl e2) ev_c rfl rfl e)
theorem ts3 (hs : sg < 128) : tsR3 (enR kr ko tx told pos (some (.p (.str [sg])))) S = .ok (told.isNone && decide (sg = 40)) S := by
  refine ev_tand (ev_tval (ev_isN (ev_var rfl) isN_td)) (andK_s fun _ => ?_)
  exact ev_tval (ev_bin (ev_var rfl) ev_c rfl rfl (eq_one hs 40 (by decide)))
theorem dat_nums (l : List Nat) (m : Nat) : datL (nums l) m = true := datL_of fun x _ => rfl
theorem dat_row {f : Row} (h : f.1 < 128) (m : Nat) : (rwP f).dat (m + 1) = true := by
  show ((P.str [f.1]).dat m && datL (nums f.2) m) = true
  rw [dat_nums, Bool.and_true]
  exact asc_one h
theorem ts4 {op : List Row} (ho : S[ko]? = some (.lst (op.reverse.map rwP))) (hop : ∀ f ∈ op, f.1 < 128) : tsR4 (enR kr ko tx told pos (some (.p (.str [sg])))) S = .ok (told.isNone || op.isEmpty) S := by
  refine ev_tor (ev_tval (ev_isN (ev_var rfl) isN_td)) (orK_s fun _ => ?_)
  have e : pEq (.lst (op.reverse.map rwP)) (.lst []) = some (.bl op.isEmpty) := by
    rw [op_eqL0 (fun x hx => dat_row (hop x (List.mem_reverse.mp hx)) 58)]
    simp
  exact ev_tval (ev_bin (ev_var rfl) (ev_lst ev_anil frzs_z (by simp)) (rd_lst ho) rfl e)
theorem last_at {op : List Row} {f : Row} (ho : S[ko]? = some (.lst ((f :: op).reverse.map rwP))) : S[ko]? = some (.lst (op.reverse.map rwP ++ [rwP f])) := by
  rw [ho]
  simp
theorem item_last {op : List Row} {f : Row} {a5 : Option Vl} (ho : S[ko]? = some (.lst ((f :: op).reverse.map rwP))) : eItem (eVar 3) (eUn pNeg (eC (.int 1))) (enR kr ko tx told pos a5) S = .ok (.p (rwP f)) S := by
  have h := last_at ho
  exact ev_item (ev_var rfl) (ev_un ev_c rfl op_neg1) (ixv_l h at_last)
theorem ts5 {op : List Row} {f : Row} (ho : S[ko]? = some (.lst ((f :: op).reverse.map rwP))) (hf : f.1 < 128) (hs : sg < 128) : tsR5 (enR kr ko tx told pos (some (.p (.str [sg])))) S = .ok (decide (sg = 41) && !decide (f.1 = 40)) S := by
  refine ev_tand (ev_tval (ev_bin (ev_var rfl) ev_c rfl rfl (eq_one hs 41 (by decide)))) (andK_s fun _ => ?_)
  refine ev_tval (ev_bin (ev_item (item_last ho) ev_c (ixv_p ix_t0)) ev_c rfl rfl (ne_one hf 40 (by decide)))
theorem eq_open {f : Row} (hf : f.1 < 128) : pEq (rwP f) (.tup [.str [40]]) = some (.bl (decide (f = (40, [])))) := by
  rw [op_eqD (dat_row hf 59) (by decide)]
  obtain ⟨s, l⟩ := f
  congr 2
  show ((s :: [] == [40]) && eqvL (nums l) []) = _
  rw [eqvL_nil]
  cases l with
  | nil =>
    by_cases z : s = 40
    · subst z; simp [nums]
    · simp [nums, z]
  | cons a l => simp [nums]
theorem ts6 {op : List Row} {f : Row} (ho : S[ko]? = some (.lst ((f :: op).reverse.map rwP))) (hf : f.1 < 128) (hl : tx.length ≤ 300) (ha : ∀ c ∈ tx, c < 128) :
    tsR6 (enR kr ko tx told pos (some (.p (.str [sg])))) S = .ok (decide (f = (40, [])) && decide ((tx.drop pos).take 3 = [32, 38, 32] ∨ (tx.drop pos).take 3 = [32, 124, 32])) S := by
  refine ev_tand (ev_tval (ev_bin (item_last ho) (ev_tup (ev_acons ev_c ev_anil) (frzs_s fr_p frzs_z) (by simp)) rfl rfl (eq_open hf))) (andK_s fun _ => ?_)
  have e2 : pSl (some ((pos : Nat) : Int)) (some ((pos + 3 : Nat) : Int)) (.str tx) = some (.str ((tx.drop pos).take 3)) := by
    rw [sl_txt hl _ _ (by omega)]
    have : pos + 3 - pos = 3 := by omega
    rw [this]
  have e : pIn2 (.str ((tx.drop pos).take 3)) (.tup [.str [32, 38, 32], .str [32, 124, 32]]) = some (.bl (decide ((tx.drop pos).take 3 = [32, 38, 32] ∨ (tx.drop pos).take 3 = [32, 124, 32]))) := by
    have := op_inST' (x := (tx.drop pos).take 3) (l := [[32, 38, 32], [32, 124, 32]])
    refine this.trans ?_
    simp
  exact ev_tval (ev_bin (ev_sl (ev_var rfl) (ev_oyes (ev_var rfl)) (ev_oyes (ev_bin (ev_var rfl) ev_c rfl rfl (add_lit 3))) rfl e2) (ev_tup (ev_acons ev_c (ev_acons ev_c ev_anil)) (frzs_s fr_p (frzs_s fr_p frzs_z)) (by simp)) rfl rfl e)
end
end Law

namespace Law
open PySem L2 Mir Pl
section
variable {S0 S : Sto} {kr kl kf : Nat} {q : PSt} {tx : List Nat}
theorem isO_rows {k : Nat} {xs : List Vl} (h : S[k]? = some (.ins "Rows" ["listed", "found"] xs)) : isO "Rows" "number_of" S (nv S (.c k)) = true := by
  rw [nv_ins h]
  unfold isO
  dsimp only
  rw [h]
  exact (by decide : (decide (("Rows" : Str) = "Rows") && decide (("number_of" : Str) ∉ (["listed", "found"] : List Str))) = true)
theorem getD_asc (ha : ∀ c ∈ tx, c < 128) (i : Nat) : tx.getD i 0 < 128 := by
  rw [List.getD_eq_getElem?_getD]
  cases h : tx[i]? with
  | none => decide
  | some c => exact ha c (List.mem_of_getElem? h)
theorem asg_sign {told : Option Nat} {pos ko : Nat} {a5 : Option Vl} (hp : pos < tx.length) (hl : tx.length ≤ 300) : sAsg (eItem (eVar 1) (eVar 4)) (gNm 5) (enR kr ko tx told pos a5) S = .ok (.nx (enR kr ko tx told pos (some (.p (.str [tx.getD pos 0]))))) S := by
  refine ev_asg (ev_item (ev_var rfl) (ev_var rfl) (ixv_p (x := .str tx) ?_)) (ev_gnm rfl)
  show (if tx.length ≤ 100000 then (atI tx (pos : Int)).map (fun c => P.str [c]) else none) = _
  rw [if_pos (by omega), atN (x := tx.getD pos 0) (by simp [hp])]
  rfl
theorem add_pos {told : Option Nat} {pos ko : Nat} {a5 : Option Vl} (k : Nat) : eBin pAdd (eVar 4) (eC (.int ((k : Nat) : Int))) (enR kr ko tx told pos a5) S = .ok (.p (.int ((pos + k : Nat) : Int))) S := ev_bin (ev_var rfl) ev_c rfl rfl (add_lit k)
theorem tell_ok (h : PI S0 kr kl kf S0.length q S) (hkl : kl < S0.length) (hkf : kf < S0.length) (hpos : q.pos < 300) {r : Row} {S1 : Sto} {a : MA} {ρ : En} {ds : List Vl} (hρ : ρ[0]? = some (some (.c kr)))
    (ha : a ρ S = .ok ds S1) (hds : frzs ds S1 = .ok (rwPs r) S1) (hr2 : (rwPs r).length ≤ 100000) {op : List Row} (h1 : PI S0 kr kl kf S0.length ⟨q.told, op, q.pos, q.L⟩ S1) :
    ∃ S', eMeth "Rows" "number_of" m_Rows_number_of (eVar 0) (aCons (eTupT a) aNil) ρ S = .ok (.p (.int ((q.L.idxOf r : Nat) : Int))) S' ∧ PI S0 kr kl kf S0.length ⟨some (q.L.idxOf r), op, q.pos + 1, numL q.L r⟩ S' := by
  have hL := h.smL
  obtain ⟨S', e, rs, hlen, fr⟩ := rnumber_ok (S := S1 ++ [.tup (rwPs r)]) (h1.rs.app _) (i := S1.length) (r := r) (by simp) (by show q.L.length < 1000; omega)
  have hko : S0.length < S1.length := lt_of_at h1.op
  refine ⟨S', ?_, rs, ?_, fun j hj n1 n2 => ?_, h1.asc, ?_, ?_⟩
  · exact ev_meth (ev_var hρ) (isO_rows h.rs.ins) (ev_acons (ev_tupT ha hds hr2) ev_anil) e
  · rw [fr _ (by omega) (by omega), List.getElem?_append_left hko]
    exact h1.op
  · rw [fr j n1 n2, List.getElem?_append_left (by omega)]
    exact h1.fr j hj n1 n2
  · have := numL_len q.L r
    show (numL q.L r).length ≤ q.pos + 1 + 600
    omega
  · have := h1.smO
    show op.length ≤ q.pos + 1
    exact Nat.le_succ_of_le this
theorem push_ok (h : PI S0 kr kl kf S0.length q S) (hkl : kl < S0.length) (hkf : kf < S0.length) {f : Row} (hf : f.1 < 128 ∧ f.2.length ≤ 1) {pos : Nat} (hp : q.pos < pos) : PI S0 kr kl kf S0.length ⟨none, f :: q.op, pos, q.L⟩ (S.set S0.length (.lst (q.op.reverse.map rwP ++ [rwP f]))) := by
  have hko : S0.length < S.length := lt_of_at h.op
  have hkr : kr ≠ S0.length := ne_of_at h.rs.ins h.op (by simp)
  refine ⟨h.rs.set (Ne.symm hkr) (by omega) (by omega), ?_, fun j hj n1 n2 => ?_, fun g hg => ?_, ?_, ?_⟩
  · rw [List.getElem?_set_self hko]
    simp
  · rw [List.getElem?_set_ne (by omega)]
    exact h.fr j hj n1 n2
  · rcases List.mem_cons.mp hg with z | z
    · rw [z]; exact hf
    · exact h.asc g z
  · have := h.smL
    show q.L.length ≤ pos + 600
    omega
  · have := h.smO
    show (f :: q.op).length ≤ pos
    rw [List.length_cons]
    omega
theorem turn_ok (h : PI S0 kr kl kf S0.length q S) (hkl : kl < S0.length) (hkf : kf < S0.length) (hp : q.pos < tx.length) (hl : tx.length ≤ 300) (ha : ∀ c ∈ tx, c < 128) (a5 : Option Vl) :
    (∀ q', stepT tx q = some q' → ∃ a5' S', bdR (enR kr S0.length tx q.told q.pos a5) S = .ok (.nx (enR kr S0.length tx q'.told q'.pos a5')) S' ∧ PI S0 kr kl kf S0.length q' S') ∧
    (stepT tx q = none → bdR (enR kr S0.length tx q.told q.pos a5) S = .ok (.rt (.p .non)) S) := by
  have hsg := getD_asc ha q.pos
  obtain ⟨told, op, pos, L⟩ := q
  dsimp only at hp hsg ⊢
  have ho := h.op
  have hoa := h.asc
  have hsm := h.smO
  dsimp only at ho hoa hsm
  have s0 := asg_sign (S := S) (kr := kr) (ko := S0.length) (told := told) (a5 := a5) hp hl
  have t1 := ts1 (S := S) (kr := kr) (ko := S0.length) (tx := tx) (told := told) (pos := pos) (sg := tx.getD pos 0)
  have t2 := ts2 (S := S) (kr := kr) (ko := S0.length) (tx := tx) (told := told) (pos := pos) (sg := tx.getD pos 0) hl ha
  have t3 := ts3 (S := S) (kr := kr) (ko := S0.length) (tx := tx) (told := told) (pos := pos) (sg := tx.getD pos 0) hsg
  have t4 := ts4 (S := S) (kr := kr) (ko := S0.length) (tx := tx) (told := told) (pos := pos) (sg := tx.getD pos 0) ho (fun f hf => (hoa f hf).1)
  generalize hsgE : tx.getD pos 0 = sg at *
  cases told with
  | none =>
    by_cases c1 : sg ∈ plainS
    · have e : stepT tx ⟨none, op, pos, L⟩ = some ⟨some (L.idxOf (sg, [])), op, pos + 1, numL L (sg, [])⟩ := by
        unfold stepT
        dsimp only
        rw [hsgE, if_pos c1]
      refine ⟨fun q' hq => ?_, fun z => by rw [e] at z; cases z⟩
      rw [e] at hq
      cases hq
      rw [show ((none : Option Nat).isNone && decide (sg ∈ plainS)) = true by simp [c1]] at t1
      obtain ⟨S', e1, p1⟩ := tell_ok h hkl hkf (by show pos < 300; omega) (r := (sg, [])) (a := aCons (eVar 5) aNil) (ρ := enR kr S0.length tx none pos (some (.p (.str [sg])))) (ds := [.p (.str [sg])]) rfl (ev_acons (ev_var rfl) ev_anil) (frzs_s fr_p frzs_z) (show 1 ≤ 100000 by decide) h
      have b1 : bdR1 (enR kr S0.length tx none pos (some (.p (.str [sg])))) S = .ok (.nx (enR kr S0.length tx (some (L.idxOf (sg, []))) (pos + 1) (some (.p (.str [sg]))))) S' := by
        refine ev_par (ev_acons e1 (ev_acons (add_pos 1) ev_anil)) ?_
        · rfl
      exact ⟨_, S', ev_seq s0 (thn_n (ev_sif t1 (ifK_t b1))), p1⟩
    · rw [show ((none : Option Nat).isNone && decide (sg ∈ plainS)) = false by simp [c1]] at t1
      by_cases c2 : sg ∈ deedS ∧ (tx.drop (pos + 1)).take 1 = [40]
      · have e : stepT tx ⟨none, op, pos, L⟩ = some ⟨none, (sg, []) :: op, pos + 2, L⟩ := by
          unfold stepT
          dsimp only
          rw [hsgE, if_neg c1, if_pos c2]
        refine ⟨fun q' hq => ?_, fun z => by rw [e] at z; cases z⟩
        rw [e] at hq
        cases hq
        rw [show ((none : Option Nat).isNone && (decide (sg ∈ deedS) && decide ((tx.drop (pos + 1)).take 1 = [40]))) = true by simp [c2]] at t2
        have ap := app_p (z := rwP (sg, [])) ho (by rw [List.length_map, List.length_reverse]; omega)
        have b2 : bdR2 (enR kr S0.length tx none pos (some (.p (.str [sg])))) S = .ok (.nx (enR kr S0.length tx none (pos + 2) (some (.p (.str [sg]))))) (S.set S0.length (.lst (op.reverse.map rwP ++ [rwP (sg, [])]))) := by
          refine ev_seq (ev_expr (ev_mut (ev_var rfl) (isL_c ho) (ev_acons (ev_tup (ev_acons (ev_var rfl) ev_anil) (frzs_s fr_p frzs_z) (by simp)) ev_anil) ap)) (thn_n (ev_asg (add_pos 2) (ev_gnm ?_)))
          · rfl
        exact ⟨_, _, ev_seq s0 (thn_n (ev_sif t1 (ifK_f (ev_sif t2 (ifK_t b2))))), push_ok h hkl hkf ⟨hsg, Nat.zero_le _⟩ (by show pos < pos + 2; omega)⟩
      · rw [show ((none : Option Nat).isNone && (decide (sg ∈ deedS) && decide ((tx.drop (pos + 1)).take 1 = [40]))) = false by
          rw [← Bool.decide_and]; simp only [Option.isNone_none, Bool.true_and]; exact decide_eq_false c2] at t2
        by_cases c3 : sg = 40
        · have e : stepT tx ⟨none, op, pos, L⟩ = some ⟨none, (40, []) :: op, pos + 1, L⟩ := by
            unfold stepT
            dsimp only
            rw [hsgE, if_neg c1, if_neg c2, if_pos c3]
          refine ⟨fun q' hq => ?_, fun z => by rw [e] at z; cases z⟩
          rw [e] at hq
          cases hq
          rw [show ((none : Option Nat).isNone && decide (sg = 40)) = true by simp [c3]] at t3
          have ap := app_p (z := rwP (40, [])) ho (by rw [List.length_map, List.length_reverse]; omega)
          have b3 : bdR3 (enR kr S0.length tx none pos (some (.p (.str [sg])))) S = .ok (.nx (enR kr S0.length tx none (pos + 1) (some (.p (.str [sg]))))) (S.set S0.length (.lst (op.reverse.map rwP ++ [rwP (40, [])]))) := by
            refine ev_seq (ev_expr (ev_mut (ev_var rfl) (isL_c ho) (ev_acons (ev_tup (ev_acons ev_c ev_anil) (frzs_s fr_p frzs_z) (by simp)) ev_anil) ap)) (thn_n (ev_asg (add_pos 1) (ev_gnm ?_)))
            · rfl
          exact ⟨_, _, ev_seq s0 (thn_n (ev_sif t1 (ifK_f (ev_sif t2 (ifK_f (ev_sif t3 (ifK_t b3))))))), push_ok h hkl hkf ⟨by decide, by decide⟩ (by show pos < pos + 1; omega)⟩
        · rw [show ((none : Option Nat).isNone && decide (sg = 40)) = false by simp [c3]] at t3
          have e : stepT tx ⟨none, op, pos, L⟩ = none := by
            unfold stepT
            dsimp only
            rw [hsgE, if_neg c1, if_neg c2, if_neg c3]
          refine ⟨fun q' hq => (by rw [e] at hq; cases hq), fun _ => ?_⟩
          exact ev_seq s0 (thn_n (ev_sif t1 (ifK_f (ev_sif t2 (ifK_f (ev_sif t3 (ifK_f (ev_sif t4 (ifK_t (ev_ret ev_c)))))))))) 
  | some r =>
    have t1 : tsR1 _ S = .ok false S := t1
    have t2 : tsR2 _ S = .ok false S := t2
    have t3 : tsR3 _ S = .ok false S := t3
    cases op with
    | nil =>
      have e : stepT tx ⟨some r, [], pos, L⟩ = none := rfl
      refine ⟨fun q' hq => (by rw [e] at hq; cases hq), fun _ => ?_⟩
      exact ev_seq s0 (thn_n (ev_sif t1 (ifK_f (ev_sif t2 (ifK_f (ev_sif t3 (ifK_f (ev_sif t4 (ifK_t (ev_ret ev_c))))))))))
    | cons f op =>
      obtain ⟨hf, hf2⟩ := hoa f List.mem_cons_self
      have t4 : tsR4 _ S = .ok false S := t4
      have t5 := ts5 (kr := kr) (tx := tx) (told := some r) (pos := pos) (sg := sg) ho hf hsg
      have t6 := ts6 (kr := kr) (tx := tx) (told := some r) (pos := pos) (sg := sg) ho hf hl ha
      have hla := last_at ho
      have hko : S0.length < S.length := lt_of_at h.op
      have hkr : kr ≠ S0.length := ne_of_at h.rs.ins h.op (by simp)
      by_cases c5 : sg = 41 ∧ f.1 ≠ 40
      · have e : stepT tx ⟨some r, f :: op, pos, L⟩ = some ⟨some (L.idxOf (f.1, f.2 ++ [r])), op, pos + 1, numL L (f.1, f.2 ++ [r])⟩ := by
          unfold stepT
          dsimp only
          rw [hsgE, if_pos c5]
        refine ⟨fun q' hq => ?_, fun z => by rw [e] at z; cases z⟩
        rw [e] at hq
        cases hq
        rw [show (decide (sg = 41) && !decide (f.1 = 40)) = true by simp [c5]] at t5
        have pi1 : PI S0 kr kl kf S0.length ⟨some r, op, pos, L⟩ (S.set S0.length (.lst (op.reverse.map rwP))) := by
          refine ⟨h.rs.set (Ne.symm hkr) (by omega) (by omega), ?_, fun j hj n1 n2 => ?_, fun g hg => hoa g (List.mem_cons_of_mem _ hg), h.smL, ?_⟩
          · rw [List.getElem?_set_self hko]
          · rw [List.getElem?_set_ne (by omega)]
            exact h.fr j hj n1 n2
          · have : (f :: op).length ≤ pos := hsm
            rw [List.length_cons] at this
            show op.length ≤ pos
            omega
        have hlen : (rwPs (f.1, f.2 ++ [r])).length ≤ 100000 := by
          show (P.str [f.1] :: nums (f.2 ++ [r])).length ≤ 100000
          unfold nums
          rw [List.length_cons, List.length_map, List.length_append]
          show f.2.length + 1 + 1 ≤ 100000
          omega
        have fz : frzs ((rwPs f).map Vl.p ++ [.p (.int (r : Int))]) (S.set S0.length (.lst (op.reverse.map rwP))) = .ok (rwPs (f.1, f.2 ++ [r])) (S.set S0.length (.lst (op.reverse.map rwP))) := by
          have := frzs_p (rwPs f ++ [.int (r : Int)]) (S.set S0.length (.lst (op.reverse.map rwP)))
          rw [List.map_append] at this
          refine this.trans ?_
          congr 1
          show P.str [f.1] :: nums f.2 ++ [P.int (r : Int)] = P.str [f.1] :: nums (f.2 ++ [r])
          rw [ints_append]
          rfl
        obtain ⟨S', e1, p1⟩ := tell_ok h hkl hkf (by show pos < 300; omega) (r := (f.1, f.2 ++ [r])) (a := aStar (eMut isL fPop (eVar 3) aNil) (aCons (eVar 2) aNil)) (ρ := enR kr S0.length tx (some r) pos (some (.p (.str [sg])))) rfl (ev_astar (ev_mut (ev_var rfl) (isL_c hla) ev_anil (pop_l hla)) rfl (ev_acons (ev_var rfl) ev_anil)) fz hlen pi1
        · have b5 : bdR5 (enR kr S0.length tx (some r) pos (some (.p (.str [sg])))) S = .ok (.nx (enR kr S0.length tx (some (L.idxOf (f.1, f.2 ++ [r]))) (pos + 1) (some (.p (.str [sg]))))) S' := by
            refine ev_par (ev_acons e1 (ev_acons (add_pos 1) ev_anil)) ?_
            · rfl
          exact ⟨_, S', ev_seq s0 (thn_n (ev_sif t1 (ifK_f (ev_sif t2 (ifK_f (ev_sif t3 (ifK_f (ev_sif t4 (ifK_f (ev_sif t5 (ifK_t b5))))))))))), p1⟩
      · rw [show (decide (sg = 41) && !decide (f.1 = 40)) = false by
          rw [← decide_not, ← Bool.decide_and]; exact decide_eq_false c5] at t5
        by_cases c6 : f = (40, []) ∧ ((tx.drop pos).take 3 = [32, 38, 32] ∨ (tx.drop pos).take 3 = [32, 124, 32])
        · have e : stepT tx ⟨some r, f :: op, pos, L⟩ = some ⟨none, (tx.getD (pos + 1) 0, [r]) :: op, pos + 3, L⟩ := by
            unfold stepT
            dsimp only
            rw [hsgE, if_neg c5, if_pos c6]
          refine ⟨fun q' hq => ?_, fun z => by rw [e] at z; cases z⟩
          rw [e] at hq
          cases hq
          rw [← Bool.decide_and, decide_eq_true c6] at t6
          have hp1 : pos + 1 < tx.length := by
            have : ((tx.drop pos).take 3).length = 3 := by rcases c6.2 with z | z <;> rw [z] <;> rfl
            rw [List.length_take, List.length_drop] at this
            omega
          have ix : eItem (eVar 1) (eBin pAdd (eVar 4) (eC (.int 1))) (enR kr S0.length tx (some r) pos (some (.p (.str [sg])))) S = .ok (.p (.str [tx.getD (pos + 1) 0])) S := by
            refine ev_item (ev_var rfl) (ev_bin (ev_var rfl) ev_c rfl rfl (add_lit 1)) (ixv_p (x := .str tx) ?_)
            show (if tx.length ≤ 100000 then (atI tx ((pos + 1 : Nat) : Int)).map (fun c => P.str [c]) else none) = _
            rw [if_pos (by omega), atN (x := tx.getD (pos + 1) 0) (by simp [hp1])]
            rfl
          have st := setV_last (w := rwP (tx.getD (pos + 1) 0, [r])) hla
          have pi1 : PI S0 kr kl kf S0.length ⟨none, (tx.getD (pos + 1) 0, [r]) :: op, pos + 3, L⟩ (S.set S0.length (.lst (op.reverse.map rwP ++ [rwP (tx.getD (pos + 1) 0, [r])]))) := by
            refine ⟨h.rs.set (Ne.symm hkr) (by omega) (by omega), ?_, fun j hj n1 n2 => ?_, fun g hg => ?_, ?_, ?_⟩
            · rw [List.getElem?_set_self hko]
              simp
            · rw [List.getElem?_set_ne (by omega)]
              exact h.fr j hj n1 n2
            · rcases List.mem_cons.mp hg with z | z
              · rw [z]; exact ⟨getD_asc ha _, Nat.le_refl _⟩
              · exact hoa g (List.mem_cons_of_mem _ z)
            · have : L.length ≤ pos + 600 := h.smL
              show L.length ≤ pos + 3 + 600
              omega
            · have : (f :: op).length ≤ pos := hsm
              rw [List.length_cons] at this
              show (_ :: op).length ≤ pos + 3
              rw [List.length_cons]
              omega
          have b6 : bdR6 (enR kr S0.length tx (some r) pos (some (.p (.str [sg])))) S = .ok (.nx (enR kr S0.length tx none (pos + 3) (some (.p (.str [sg]))))) (S.set S0.length (.lst (op.reverse.map rwP ++ [rwP (tx.getD (pos + 1) 0, [r])]))) := by
            have w1 : eTup (aCons (eItem (eVar 1) (eBin pAdd (eVar 4) (eC (.int 1)))) (aCons (eVar 2) aNil)) (enR kr S0.length tx (some r) pos (some (.p (.str [sg])))) S = .ok (.p (rwP (tx.getD (pos + 1) 0, [r]))) S := ev_tup (ev_acons ix (ev_acons (ev_var rfl) ev_anil)) (frzs_s fr_p (frzs_s fr_p frzs_z)) (show 2 ≤ 100000 by decide)
            refine ev_seq (ev_asg w1 (ev_gsub (ρ' := []) (ev_var rfl) (ev_un ev_c rfl op_neg1) st)) (thn_n (ev_par (ev_acons ev_c (ev_acons (add_pos 3) ev_anil)) ?_))
            · rfl
          exact ⟨_, _, ev_seq s0 (thn_n (ev_sif t1 (ifK_f (ev_sif t2 (ifK_f (ev_sif t3 (ifK_f (ev_sif t4 (ifK_f (ev_sif t5 (ifK_f (ev_sif t6 (ifK_t b6))))))))))))), pi1⟩
        · rw [← Bool.decide_and, decide_eq_false c6] at t6
          have e : stepT tx ⟨some r, f :: op, pos, L⟩ = none := by
            unfold stepT
            dsimp only
            rw [hsgE, if_neg c5, if_neg c6]
          refine ⟨fun q' hq => (by rw [e] at hq; cases hq), fun _ => ?_⟩
          exact ev_seq s0 (thn_n (ev_sif t1 (ifK_f (ev_sif t2 (ifK_f (ev_sif t3 (ifK_f (ev_sif t4 (ifK_f (ev_sif t5 (ifK_f (ev_sif t6 (ifK_f (ev_ret ev_c))))))))))))))
end
end Law

namespace Law
open PySem L2 Mir Pl
section
variable {S0 S : Sto} {kr kl kf : Nat} {q : PSt} {tx : List Nat}
theorem step_pos {q' : PSt} (h : stepT tx q = some q') : q.pos < q'.pos := by
  unfold stepT at h
  dsimp only at h
  split at h
  · split at h
    · cases h; exact Nat.lt_succ_self _
    · split at h
      · cases h; show q.pos < q.pos + 2; omega
      · split at h
        · cases h; exact Nat.lt_succ_self _
        · cases h
  · split at h
    · cases h
    · split at h
      · cases h; exact Nat.lt_succ_self _
      · split at h
        · cases h; show q.pos < q.pos + 3; omega
        · cases h
abbrev tsW : MT := tVal (eBin bLt (eVar 4) (eCall pLen (aCons (eVar 1) aNil)))
theorem tsW_ok {told : Option Nat} {pos ko : Nat} {a5 : Option Vl} (hl : tx.length ≤ 300) : tsW (enR kr ko tx told pos a5) S = .ok (decide (pos < tx.length)) S :=
  ev_tval (ev_bin (ev_var rfl) (ev_call (ev_acons (ev_var rfl) ev_anil) (rds_c rfl (rds_nil _)) (op_lenS (by omega))) rfl rfl op_ltN)
theorem loop_ok (hkl : kl < S0.length) (hkf : kf < S0.length) (hl : tx.length ≤ 300) (ha : ∀ c ∈ tx, c < 128) : ∀ (n : Nat) (q : PSt) (S : Sto) (a5 : Option Vl), tx.length < n + q.pos → 0 < n → PI S0 kr kl kf S0.length q S →
    (∃ q' a5' S', runT tx n q = some q' ∧ whGo tsW bdR n (enR kr S0.length tx q.told q.pos a5) S = .ok (.nx (enR kr S0.length tx q'.told q'.pos a5')) S' ∧ PI S0 kr kl kf S0.length q' S') ∨
    (runT tx n q = none ∧ ∃ q' S', whGo tsW bdR n (enR kr S0.length tx q.told q.pos a5) S = .ok (.rt (.p .non)) S' ∧ PI S0 kr kl kf S0.length q' S')
  | 0, q, S, a5, _, h0, _ => absurd h0 (by decide)
  | n + 1, q, S, a5, hn, _, h => by
    have t := tsW_ok (S := S) (kr := kr) (ko := S0.length) (told := q.told) (pos := q.pos) (a5 := a5) hl
    by_cases hp : q.pos < tx.length
    · rw [decide_eq_true hp] at t
      obtain ⟨k1, k2⟩ := turn_ok h hkl hkf hp hl ha a5
      cases e : stepT tx q with
      | none =>
        refine .inr ⟨?_, q, S, wh_ret t (k2 e), h⟩
        show (if q.pos < tx.length then (match stepT tx q with
          | some q' => runT tx n q'
          | none => none) else some q) = _
        rw [if_pos hp, e]
      | some q' =>
        obtain ⟨a5', S', e1, h1⟩ := k1 q' e
        have hq := step_pos e
        have er : runT tx (n + 1) q = runT tx n q' := run_step hp e
        rw [er, wh_step t e1]
        exact loop_ok hkl hkf hl ha n q' S' a5' (by omega) (by omega) h1
    · rw [decide_eq_false hp] at t
      refine .inl ⟨q, a5, S, ?_, wh_end t, h⟩
      show (if q.pos < tx.length then _ else some q) = _
      rw [if_neg hp]
theorem take_at {n j : Nat} (h : j < n) : (S.take n)[j]? = S[j]? := by
  rw [List.getElem?_take_of_lt h]
theorem read_into_ok {L : List Row} (h : RwS S0 kr kl kf L) (hL : L.length ≤ 600) (hl : tx.length ≤ 300) (ha : ∀ c ∈ tx, c < 128) :
    (∀ r M, readT tx L = some (r, M) → ∃ S', m_read_into [.c kr, .p (.str tx)] S0 = .ok (.p (.int (r : Int))) S' ∧ RwS S' kr kl kf M ∧ S'.length = S0.length ∧ ∀ j, j ≠ kl → j ≠ kf → S'[j]? = S0[j]?) ∧
    (readT tx L = none → ∃ S', m_read_into [.c kr, .p (.str tx)] S0 = .ok (.p .non) S' ∧ S'.length = S0.length ∧ ∀ j, j ≠ kl → j ≠ kf → S'[j]? = S0[j]?) := by
  have hkr := lt_of_at h.ins
  have hkl := lt_of_at h.lst
  have hkf := lt_of_at h.dct
  have p0 : PI S0 kr kl kf S0.length ⟨none, [], 0, L⟩ (S0 ++ [.lst []]) := by
    refine ⟨h.app _, by simp, fun j hj _ _ => List.getElem?_append_left hj, fun f hf => (by cases hf), (by show L.length ≤ 0 + 600; omega), Nat.le_refl _⟩
  have ln : ∀ {q' : PSt} {S' : Sto}, PI S0 kr kl kf S0.length q' S' → (S'.take S0.length).length = S0.length ∧ RwS (S'.take S0.length) kr kl kf q'.L ∧ ∀ j, j ≠ kl → j ≠ kf → (S'.take S0.length)[j]? = S0[j]? := by
    intro q' S' p
    have hS := lt_of_at p.op
    refine ⟨by rw [List.length_take]; omega, ⟨by rw [take_at hkr]; exact p.rs.ins, by rw [take_at hkl]; exact p.rs.lst, by rw [take_at hkf]; exact p.rs.dct⟩, fun j n1 n2 => ?_⟩
    by_cases hj : j < S0.length
    · rw [take_at hj]; exact p.fr j hj n1 n2
    · rw [List.getElem?_eq_none (by rw [List.length_take]; omega), List.getElem?_eq_none (by omega)]
  have s1 : sPar3 2 3 4 (aCons (eC .non) (aCons (eLstC aNil) (aCons (eC (.int 0)) aNil))) [some (.c kr), some (.p (.str tx)), none, none, none, none] S0 = .ok (.nx (enR kr S0.length tx none 0 none)) (S0 ++ [.lst []]) :=
    ev_par3 (ev_acons ev_c (ev_acons (ev_lstC ev_anil frzs_z (by simp)) (ev_acons ev_c ev_anil))) rfl
  have lp := loop_ok (S0 := S0) (kr := kr) hkl hkf hl ha 1000 ⟨none, [], 0, L⟩ (S0 ++ [.lst []]) none (by show tx.length < 1000 + 0; omega) (by decide) p0
  rcases lp with ⟨q', a5', S', e1, e2, p⟩ | ⟨e1, q', S', e2, p⟩
  · obtain ⟨g1, g2, g3⟩ := ln p
    have t1 : tVal (eBin pEq (eVar 3) (eLst aNil)) (enR kr S0.length tx q'.told q'.pos a5') S' = .ok q'.op.isEmpty S' := by
      have e : pEq (.lst (q'.op.reverse.map rwP)) (.lst []) = some (.bl q'.op.isEmpty) := by
        rw [op_eqL0 (fun x hx => dat_row (p.asc x (List.mem_reverse.mp hx)).1 58)]
        simp
      exact ev_tval (ev_bin (ev_var rfl) (ev_lst ev_anil frzs_z (by simp)) (rd_lst p.op) rfl e)
    have run : ∀ x : P, eIfM (tVal (eBin pEq (eVar 3) (eLst aNil))) (eVar 2) (eC .non) (enR kr S0.length tx q'.told q'.pos a5') S' = .ok (.p x) S' → m_read_into [.c kr, .p (.str tx)] S0 = .ok (.p x) (S'.take S0.length) := by
      intro x hx
      unfold m_read_into b_read_into
      refine ws_mkFe (ρ := [some (.c kr), some (.p (.str tx)), none, none, none, none]) rfl rfl ?_
      refine ws_seq s1 (ws_seq e2 (ws_of (ev_ret hx) ?_))
      rw [endF_p]
    obtain ⟨told, op, pos, M⟩ := q'
    cases op with
    | cons f op =>
      have r0 : readT tx L = none := by
        unfold readT
        rw [e1]
        cases told <;> rfl
      refine ⟨fun r M' z => (by rw [r0] at z; cases z), fun _ => ⟨_, run .non (ev_if t1 (ifK_f ev_c)), g1, g3⟩⟩
    | nil =>
      cases told with
      | none =>
        have r0 : readT tx L = none := by
          unfold readT
          rw [e1]
          rfl
        exact ⟨fun r M' z => (by rw [r0] at z; cases z), fun _ => ⟨_, run .non (ev_if t1 (ifK_t (ev_var rfl))), g1, g3⟩⟩
      | some r =>
        have r0 : readT tx L = some (r, M) := by
          unfold readT
          rw [e1]
          rfl
        refine ⟨fun r' M' z => ?_, fun z => (by rw [r0] at z; cases z)⟩
        rw [r0] at z
        cases z
        exact ⟨_, run _ (ev_if t1 (ifK_t (ev_var rfl))), g2, g1, g3⟩
  · obtain ⟨g1, g2, g3⟩ := ln p
    have r0 : readT tx L = none := by
      unfold readT
      rw [e1]
      rfl
    refine ⟨fun r M z => (by rw [r0] at z; cases z), fun _ => ⟨S'.take S0.length, ?_, g1, g3⟩⟩
    unfold m_read_into b_read_into
    refine ws_mkFe (ρ := [some (.c kr), some (.p (.str tx)), none, none, none, none]) rfl rfl ?_
    refine ws_seq s1 (ws_of (ev_seq e2 thn_r) ?_)
    rw [endF_p]
def newR (n : Nat) : List Cell := [.lst [], .dcT [] [], .ins "Rows" ["listed", "found"] [.c n, .c (n + 1)]]
theorem rows_new (S : Sto) : RwS (S ++ newR S.length) (S.length + 2) S.length (S.length + 1) [] := by
  unfold newR
  exact ⟨cell2, cell0, cell1⟩
end
end Law

namespace Law
open PySem L2 Mir Pl
section
variable {tx : List Nat}
theorem put_at {c f : Str} {S : Sto} {k : Nat} {ns : List Str} {xs : List Vl} {d : Vl} (hk : S[k]? = some (.ins c ns xs)) (h : f ∉ ns) (hl : ns.length = xs.length) (hn : ns.length < 1000) : putC c f k d S = .ok () (S.set k (.ins c (ns ++ [f]) (xs ++ [d]))) := by
  unfold putC
  rw [hk]
  dsimp only
  rw [if_pos ⟨rfl, hn⟩, putN_new h, putX_new h hl]
theorem fset_c {c f : Str} {S : Sto} {k j : Nat} {ns : List Str} {xs : List Vl} (hj : j < k) (hk : S[k]? = some (.ins c ns xs)) (h : f ∉ ns) (hl : ns.length = xs.length) (hn : ns.length < 1000) : fSet c f (.c k) (.c j) S = .ok () (S.set k (.ins c (ns ++ [f]) (xs ++ [.c j]))) := by
  unfold fSet
  dsimp only
  rw [if_pos hj, put_at hk h hl hn]
theorem ev_gfldM {c f : Str} {o : ME} {ρ : En} {S S1 S2 : Sto} {d e : Vl} (ho : o ρ S = .ok e S1) (hf : fSet c f e d S1 = .ok () S2) : gFldM c f o d ρ S = .ok ρ S2 := by
  unfold gFldM
  rw [ho, nox_ok, bind_ok, hf, bind_ok]
theorem ev_lstR {i k : Nat} {o : ME} {ρ : En} {S S1 : Sto} (ho : o ρ S = .ok (.c k) S1) (h : S1[k - i]? = some .res) : eLstR i o ρ S = .ok (.c (k - i)) (S1.set (k - i) (.lst [])) := by
  unfold eLstR
  rw [ho, bind_ok]
  dsimp only
  rw [h]
theorem ev_dctR {i k : Nat} {o : ME} {ρ : En} {S S1 : Sto} (ho : o ρ S = .ok (.c k) S1) (h : S1[k - i]? = some .res) : eDctR i o ρ S = .ok (.c (k - i)) (S1.set (k - i) (.dcT [] [])) := by
  unfold eDctR
  rw [ho, bind_ok]
  dsimp only
  rw [h]
theorem set2 {S : Sto} {a b c d : Cell} : (S ++ [a, b, c]).set S.length d = S ++ [d, b, c] := by
  rw [List.set_append_right _ _ (Nat.le_refl _), Nat.sub_self]
  rfl
theorem set1 {S : Sto} {a b c d : Cell} : (S ++ [a, b, c]).set (S.length + 1) d = S ++ [a, d, c] := by
  rw [List.set_append_right _ _ (by omega)]
  have : S.length + 1 - S.length = 1 := by omega
  rw [this]
  rfl
theorem set0 {S : Sto} {a b c d : Cell} : (S ++ [a, b, c]).set (S.length + 2) d = S ++ [a, b, d] := by
  rw [List.set_append_right _ _ (by omega)]
  have : S.length + 2 - S.length = 2 := by omega
  rw [this]
  rfl
theorem init_rows (S : Sto) : m_Rows___init__ [.c (S.length + 2)] (S ++ [.res, .res, .ins "Rows" [] []]) = .ok (.p .non) (S ++ newR S.length) := by
  unfold m_Rows___init__ b_Rows___init__
  refine ws_mkFe (ρ := [some (.c (S.length + 2))]) rfl rfl ?_
  have e1 : eLstR 2 (eVar 0) [some (.c (S.length + 2))] (S ++ [.res, .res, .ins "Rows" [] []]) = .ok (.c S.length) (S ++ [.lst [], .res, .ins "Rows" [] []]) := by
    have := ev_lstR (i := 2) (k := S.length + 2) (o := eVar 0) (ρ := [some (.c (S.length + 2))]) (S := S ++ [.res, .res, .ins "Rows" [] []]) (ev_var rfl) (by rw [Nat.add_sub_cancel]; exact cell0)
    rw [Nat.add_sub_cancel, set2] at this
    exact this
  have e2 : eDctR 1 (eVar 0) [some (.c (S.length + 2))] (S ++ [.lst [], .res, .ins "Rows" [] []]) = .ok (.c (S.length + 1)) (S ++ [.lst [], .dcT [] [], .ins "Rows" [] []]) := by
    have hz : S.length + 2 - 1 = S.length + 1 := by omega
    have := ev_dctR (i := 1) (k := S.length + 2) (o := eVar 0) (ρ := [some (.c (S.length + 2))]) (S := S ++ [.lst [], .res, .ins "Rows" [] []]) (ev_var rfl) (by rw [hz]; exact cell1)
    rw [hz, set1] at this
    exact this
  have f1 : fSet "Rows" "listed" (.c (S.length + 2)) (.c S.length) (S ++ [.lst [], .dcT [] [], .ins "Rows" [] []]) = .ok () (S ++ [.lst [], .dcT [] [], .ins "Rows" ["listed"] [.c S.length]]) := by
    rw [fset_c (by omega) cell2 (by simp) rfl (by decide), set0]
    rfl
  have f2 : fSet "Rows" "found" (.c (S.length + 2)) (.c (S.length + 1)) (S ++ [.lst [], .dcT [] [], .ins "Rows" ["listed"] [.c S.length]]) = .ok () (S ++ newR S.length) := by
    rw [fset_c (by omega) cell2 (by decide) rfl (by decide), set0]
    rfl
  refine ws_of (ev_parG (ev_acons e1 (ev_acons e2 ev_anil)) rfl (by decide) (ev_gcn (ev_gfldM (ev_var rfl) f1) (ev_gcn (ev_gfldM (ev_var rfl) f2) ev_gnl))) ?_
  rw [endF_nx, List.take_of_length_le]
  simp [newR]
theorem make_rows (ρ : En) (S : Sto) : eMakeR 2 "Rows" m_Rows___init__ ρ S = .ok (.c (S.length + 2)) (S ++ newR S.length) := by
  unfold eMakeR mkO
  have e : S ++ List.replicate 2 Cell.res ++ [.ins "Rows" [] []] = S ++ [.res, .res, .ins "Rows" [] []] := by simp
  have e2 : (S ++ List.replicate 2 Cell.res).length = S.length + 2 := by simp
  rw [e, e2, init_rows]
  rfl
theorem take_new {S S' : Sto} (hl : S'.length = S.length + 3) (h : ∀ j, j ≠ S.length → j ≠ S.length + 1 → S'[j]? = (S ++ newR S.length)[j]?) : S'.take S.length = S := by
  apply List.ext_getElem?
  intro j
  by_cases hj : j < S.length
  · rw [take_at hj, h j (by omega) (by omega), List.getElem?_append_left hj]
  · rw [List.getElem?_eq_none (by rw [List.length_take]; omega), List.getElem?_eq_none (by omega)]
theorem is_text_ok (hl : tx.length ≤ 300) (ha : ∀ c ∈ tx, c < 128) (S : Sto) : m_is_text [.p (.str tx)] S = .ok (.p (.bl (readT tx []).isSome)) S := by
  have hr := read_into_ok (S0 := S ++ newR S.length) (tx := tx) (rows_new S) (by decide) hl ha
  have go : ∀ (d : Vl) (S' : Sto) (b : Bool), m_read_into [.c (S.length + 2), .p (.str tx)] (S ++ newR S.length) = .ok d S' → (!isN d) = b → S'.length = (S ++ newR S.length).length → (∀ j, j ≠ S.length → j ≠ S.length + 1 → S'[j]? = (S ++ newR S.length)[j]?) → m_is_text [.p (.str tx)] S = .ok (.p (.bl b)) S := by
    intro d S' b e hb h1 h2
    unfold m_is_text b_is_text
    refine ws_mkFe (ρ := [some (.p (.str tx))]) rfl rfl ?_
    have l1 : eBin bLe (eCall pLen (aCons (eVar 0) aNil)) (eC (.int 300)) [some (.p (.str tx))] S = .ok (.p (.bl true)) S := by
      have := ev_bin (ρ := [some (.p (.str tx))]) (S := S) (a := eCall pLen (aCons (eVar 0) aNil)) (b := eC (.int 300)) (f := bLe) (ev_call (ev_acons (ev_var rfl) ev_anil) (rds_c rfl (rds_nil _)) (op_lenS (x := tx) (by omega))) ev_c rfl rfl (op_leN (b := 300))
      rw [decide_eq_true hl] at this
      exact this
    refine ws_of (ev_ret (ev_eand (q := true) (ev_isi (ev_var rfl) ev_c rfl rfl) (eandK_t (ev_eand l1 (eandK_t (ev_notN (ev_fn (ev_acons (make_rows _ _) (ev_acons (ev_var rfl) ev_anil)) e) hb)))))) ?_
    rw [endF_p, take_new (by rw [h1]; simp [newR]) h2]
  cases h : readT tx [] with
  | none =>
    obtain ⟨S', e, h1, h2⟩ := hr.2 h
    exact go _ S' false e rfl h1 h2
  | some x =>
    obtain ⟨r, M⟩ := x
    obtain ⟨S', e, _, h1, h2⟩ := hr.1 r M h
    exact go _ S' true e rfl h1 h2
def trmP (tx : List Nat) : P := .obj "Term" ["told"] [.str tx]
theorem make_term (hl : tx.length ≤ 300) (ha : ∀ c ∈ tx, c < 128) (hr : (readT tx []).isSome = true) (S : Sto) : mkO false "Term" m_Term___init__ [.p (.str tx)] S = .ok (.p (trmP tx)) S := by
  have ht := is_text_ok hl ha (S ++ [.ins "Term" [] []])
  rw [hr] at ht
  have body : m_Term___init__ [.c S.length, .p (.str tx)] (S ++ [.ins "Term" [] []]) = .ok (.p .non) (S ++ [.ins "Term" ["told"] [.p (.str tx)]]) := by
    unfold m_Term___init__ b_Term___init__
    refine ws_mkFe (ρ := [some (.c S.length), some (.p (.str tx))]) rfl rfl ?_
    have hk : (S ++ [Cell.ins "Term" [] []])[S.length]? = some (.ins "Term" [] []) := by simp
    refine ws_seq (ev_sif (ev_tnot (ev_tval (ev_fn (ev_acons (ev_var rfl) ev_anil) ht)) rfl) (ifK_f ev_pass)) ?_
    refine ws_of (ev_asg (ev_var rfl) (ev_gfldM (ev_var rfl) (fSet_end (by decide) rfl (by decide)))) ?_
    rw [endF_nx, List.take_of_length_le (by simp)]
    rfl
  unfold mkO
  rw [body]
  unfold endO
  dsimp only
  have hk2 : (S ++ [Cell.ins "Term" ["told"] [.p (.str tx)]])[S.length]? = some (.ins "Term" ["told"] [.p (.str tx)]) := by simp
  have fr : frz (.c S.length) (S ++ [Cell.ins "Term" ["told"] [.p (.str tx)]]) = .ok (trmP tx) ((S ++ [Cell.ins "Term" ["told"] [.p (.str tx)]]).set S.length (.fz (trmP tx))) := by
    unfold frz frzN
    dsimp only
    rw [hk2]
    dsimp only
    show ((Res.ok [P.str tx] _).bind _) = _
    rw [bind_ok, hk2]
    dsimp only
    rw [if_pos ⟨rfl, rfl⟩]
    rfl
  rw [fr, bind_ok]
  simp
end
end Law

namespace Law
open PySem L2 Mir Pl
section
variable (n : Nat) (near lots : List (List Nat))
end
section
variable {n : Nat} {near lots : List (List Nat)}
end
end Law

namespace Law
open PySem L2 Mir Pl
section
variable {n : Nat} {order near lots : List (List Nat)} (h : Spc n order near)
include h
end
end Law

namespace Law
open PySem L2 Mir Pl
section
variable {n : Nat} {order near lots : List (List Nat)} (h : Spc n order near)
include h
end
end Law

namespace Law
open PySem L2 Mir Pl
theorem check_term_ok (tx : List Nat) (S : Sto) : m_check_term [.p (trmP tx)] S = .ok (.p .non) S := by
  unfold m_check_term b_check_term
  refine ws_mkFe (ρ := [some (.p (trmP tx))]) rfl rfl ?_
  exact ws_of (ev_sif (ev_tnot (ev_tval (q := true) (ev_isi (ev_var rfl) ev_c rfl rfl)) rfl) (ifK_f ev_pass)) end_nx
section
variable {n : Nat} {order near : List (List Nat)}
variable (h : Spc n order near)
include h
end
end Law

namespace Law
open PySem L2 Mir Pl
def Ltr (ls : List Nat) : Prop := ∀ s ∈ ls, s = 120 ∨ s = 121 ∨ s = 122
theorem txt_signs {ls : List Nat} : ∀ {t : Tr}, t.ok ls → ∀ c ∈ t.txt, c ∈ ls ∨ c ∈ [48, 49, 99, 105, 110, 40, 41, 32, 38, 124]
  | .leaf s, h, c, hc => by
    have : c = s := by
      have hc : c ∈ [s] := hc
      simpa using hc
    subst this
    rcases h with z | z | z
    · exact .inl z
    · rw [z]; exact .inr (by decide)
    · rw [z]; exact .inr (by decide)
  | .un s t, h, c, hc => by
    obtain ⟨hs, h⟩ := h
    have hc : c ∈ s :: 40 :: (t.txt ++ [41]) := hc
    rcases List.mem_cons.mp hc with z | hc
    · subst z
      right
      unfold deedS at hs
      simp at hs ⊢
      omega
    · rcases List.mem_cons.mp hc with z | hc
      · rw [z]; exact .inr (by decide)
      · rcases List.mem_append.mp hc with z | z
        · exact txt_signs h c z
        · have : c = 41 := by simpa using z
          rw [this]; exact .inr (by decide)
  | .bin s t u, h, c, hc => by
    obtain ⟨hs, h, h2⟩ := h
    have hc : c ∈ 40 :: (t.txt ++ (32 :: s :: 32 :: (u.txt ++ [41]))) := hc
    rcases List.mem_cons.mp hc with z | hc
    · rw [z]; exact .inr (by decide)
    · rcases List.mem_append.mp hc with z | hc
      · exact txt_signs h c z
      · rcases List.mem_cons.mp hc with z | hc
        · rw [z]; exact .inr (by decide)
        · rcases List.mem_cons.mp hc with z | hc
          · subst z
            right
            simp
            omega
          · rcases List.mem_cons.mp hc with z | hc
            · rw [z]; exact .inr (by decide)
            · rcases List.mem_append.mp hc with z | z
              · exact txt_signs h2 c z
              · have : c = 41 := by simpa using z
                rw [this]; exact .inr (by decide)
theorem txt_asc {ls : List Nat} (hls : Ltr ls) {t : Tr} (h : t.ok ls) : ∀ c ∈ t.txt, c < 128 := fun c hc => by
  rcases txt_signs h c hc with z | z
  · have := hls c z
    omega
  · simp at z
    omega
section
variable {n : Nat} {order near lots : List (List Nat)} (h : Spc n order near)
include h
end
end Law

namespace Law
open PySem L2 Mir Pl
def lsP (ls : List Nat) : P := .lst (ls.map fun c => P.str [c])
theorem eq0_t {d : Nat} (h : d = 0) : pEq (.int (d : Int)) (.int 0) = some (.bl true) := by rw [op_eqN0, h]; rfl
theorem eq0_f {d : Nat} (h : d ≠ 0) : pEq (.int (d : Int)) (.int 0) = some (.bl false) := by
  rw [op_eqN0]
  have : (d == 0) = false := by simpa using h
  rw [this]
end Law

namespace Law
open PySem L2 Mir Pl
section
variable {n : Nat} {near lots : List (List Nat)}
end
end Law

namespace Law
open PySem L2 Mir Pl
theorem txt_len : ∀ t : Tr, t.txt.length + 5 ≤ 6 * 2 ^ t.dep
  | .leaf s => by
    show 1 + 5 ≤ 6 * 2 ^ 0
    decide
  | .un s t => by
    have := txt_len t
    show (s :: 40 :: (t.txt ++ [41])).length + 5 ≤ 6 * 2 ^ (t.dep + 1)
    rw [Nat.pow_succ]
    simp
    omega
  | .bin s t u => by
    have h1 := txt_len t
    have h2 := txt_len u
    have p1 : 2 ^ t.dep ≤ 2 ^ max t.dep u.dep := Nat.pow_le_pow_right (by decide) (Nat.le_max_left _ _)
    have p2 : 2 ^ u.dep ≤ 2 ^ max t.dep u.dep := Nat.pow_le_pow_right (by decide) (Nat.le_max_right _ _)
    show (40 :: (t.txt ++ (32 :: s :: 32 :: (u.txt ++ [41])))).length + 5 ≤ 6 * 2 ^ (max t.dep u.dep + 1)
    rw [Nat.pow_succ]
    simp
    omega
section
variable {n : Nat} {near lots : List (List Nat)} (hn : Near n near) {l m : List Nat} (hl : Lot n l) (hm : Lot n m)
end
section
variable {n : Nat} {near lots : List (List Nat)}
variable (hn : Near n near) (hlots : ∀ l ∈ lots, Lot n l) {ls : List Nat}
include hn hlots
end
end Law

namespace Law
open PySem L2 Mir
def Jar (S : Sto) (k : Nat) : Prop := ∃ a b c : Int, S[k]? = some (.lst [.int a, .int b, .int c]) ∧ 0 ≤ a ∧ 0 ≤ b ∧ b < 2147483587 ∧ 0 ≤ c
structure Jx (k : Nat) (S S' : Sto) : Prop where
  len : S'.length = S.length
  jar : Jar S' k
  oth : ∀ j, j ≠ k → S'[j]? = S[j]?
theorem Jx.trans {k : Nat} {S S1 S2 : Sto} (h : Jx k S S1) (h' : Jx k S1 S2) : Jx k S S2 := ⟨h'.len.trans h.len, h'.jar, fun j hj => (h'.oth j hj).trans (h.oth j hj)⟩
theorem Jx.of_set {k : Nat} {S : Sto} {c : Cell} {a b e : Int} (hk : S[k]? = some c) (ha : 0 ≤ a) (hb : 0 ≤ b) (hb2 : b < 2147483587) (hc : 0 ≤ e) : Jx k S (S.set k (.lst [.int a, .int b, .int e])) :=
  ⟨List.length_set, ⟨a, b, e, get_set_self hk, ha, hb, hb2, hc⟩, fun j hj => get_set_ne (Ne.symm hj)⟩
theorem dig_ok {S : Sto} {k : Nat} {n : Int} (hu : Jar S k) (hn : 0 < n) (hn2 : n < 1000000) : ∃ r S', m__law_dig [.c k, .p (.int n)] S = .ok (.p (.int r)) S' ∧ 0 ≤ r ∧ r < n ∧ Jx k S S' := by
  obtain ⟨a, b, c, hk, ha, hb, hb2, hc⟩ := hu
  unfold m__law_dig mkF b__law_dig
  simp [nv_lst hk, ixV_lst hk]
  rw [setV_lst hk rfl]
  simp
  have h1 := Jx.of_set (e := c + 1) hk ha hb hb2 (by omega)
  have hk1 : (S.set k (.lst [.int a, .int b, .int (c + 1)]))[k]? = _ := get_set_self hk
  generalize hS1 : S.set k (.lst [.int a, .int b, .int (c + 1)]) = S1 at *
  have e1 : ∀ x : Int, bMul b x = true := fun x => bMul_l (by omega) (by omega)
  have e2 : ∀ x : Int, bMul x 65521 = true := fun x => bMul_r (by omega) (by omega)
  have e3 : ∀ x : Int, bMod x 2147483587 = true := fun x => bMod_of (by decide)
  have e4 : ∀ x : Int, bMod x 29989 = true := fun x => bMod_of (by decide)
  simp [nv_lst hk1, ixV_lst hk1, e1, e2, e3, e4]
  rw [setV_lst hk1 rfl]
  simp
  generalize hC : (b * (b % 29989 + 40013) + (c + 1) * 65521 + 7) % 2147483587 = C
  have hC0 : 0 ≤ C := by rw [← hC]; exact Int.emod_nonneg _ (by decide)
  have hC1 : C < 2147483587 := by rw [← hC]; exact Int.emod_lt_of_pos _ (by decide)
  have h2 := Jx.of_set (a := a) (b := C) (e := c + 1) hk1 ha hC0 hC1 (by omega)
  have hk2 : (S1.set k (.lst [.int a, .int C, .int (c + 1)]))[k]? = _ := get_set_self hk1
  generalize hS2 : S1.set k (.lst [.int a, .int C, .int (c + 1)]) = S2 at *
  by_cases h0 : 0 < a
  · simp [nv_lst hk2, ixV_lst hk2, h0, bDiv_of hn (show n < 1073741824 by omega)]
    rw [setV_lst hk2 rfl]
    simp
    refine ⟨a % n, _, ⟨rfl, rfl⟩, Int.emod_nonneg _ (by omega), Int.emod_lt_of_pos _ hn, ?_⟩
    rw [take_len (List.length_set.trans (h2.len.trans h1.len))]
    exact (h1.trans h2).trans (Jx.of_set hk2 (Int.ediv_nonneg ha (by omega)) hC0 hC1 (by omega))
  · have e6 : ∀ x, bDiv x 128 = true := fun x => bDiv_of (by decide) (by decide)
    have e7 : ∀ x, bMod x n = true := fun x => bMod_of hn
    simp [nv_lst hk2, ixV_lst hk2, h0, e6, e7]
    refine ⟨_, _, ⟨rfl, rfl⟩, Int.emod_nonneg _ (by omega), Int.emod_lt_of_pos _ hn, ?_⟩
    rw [take_len (h2.len.trans h1.len)]
    exact h1.trans h2
theorem take_ok {S : Sto} {k : Nat} {xs : List P} (hu : Jar S k) (h0 : xs ≠ []) (hl : xs.length < 1000000) : ∃ x S', m__law_take [.c k, .p (.lst xs)] S = .ok (.p x) S' ∧ x ∈ xs ∧ Jx k S S' := by
  have hp : 0 < xs.length := List.length_pos_iff.mpr h0
  obtain ⟨r, S', e, r0, r1, ux⟩ := dig_ok (n := xs.length) hu (by omega) (by omega)
  have hr : r.toNat < xs.length := by omega
  refine ⟨xs[r.toNat], S', ?_, List.getElem_mem _, ux⟩
  unfold m__law_take mkF b__law_take
  simp [e]
  have e2 : atI xs r = some xs[r.toNat] := by
    have := atN (xs := xs) (i := r.toNat) (x := xs[r.toNat]) (by simp [hr])
    rwa [Int.toNat_of_nonneg r0] at this
  rw [e2]
  simp
  exact take_len ux.len
end Law

namespace Mir
theorem cutJ_map {A B : Type} (f : A → B) (xs : List A) (lo hi : Option Int) : cutP (xs.map f) lo hi = (cutP xs lo hi).map f := by
  unfold cutP
  simp
end Mir
namespace Law
open PySem L2 Mir Pl
def scrJ (ns : List Int) : P := .scr (ns.map P.int)
theorem cell_ok {ns : List Int} (hn : ns.length ≤ 63) {t : Nat} (S : Sto) : ∃ v : Int, m__law_cell [.p (scrJ ns), .p (.int (t : Int))] S = .ok (.p (.int v)) S := by
  have e1 : tVal (eBin bLt (eVar 1) (eCall pLen (aCons (eVar 0) aNil))) [some (.p (scrJ ns)), some (.p (.int (t : Int))), none, none] S = .ok (decide ((t : Int) < ((ns.length : Nat) : Int))) S := by
    have e0 : pLen [scrJ ns] = some (.int ((ns.length : Nat) : Int)) := by
      unfold scrJ
      rw [pLen_scr, List.length_map]
    have e2 : eCall pLen (aCons (eVar 0) aNil) [some (.p (scrJ ns)), some (.p (.int (t : Int))), none, none] S = .ok (.p (.int ((ns.length : Nat) : Int))) S := eCall1_of rfl e0
    exact ev_tval (ev_bin (d := .p (.int (t : Int))) rfl e2 (rd_p _ _) (rd_p _ _) rfl)
  have bm : ∀ i : Int, bMul 7919 i = true := fun i => bMul_l (by decide) (by decide)
  have bm2 : ∀ i : Int, bMul i 48337 = true := fun i => bMul_r (by decide) (by decide)
  have mm : ∀ i : Int, bMod i 2147483587 = true := fun i => bMod_of (by decide)
  have opm : ∀ {i j : Int}, bMul i j = true → pMul (.int i) (.int j) = some (.int (i * j)) := fun h => by rw [pMul_int, h, if_pos rfl]
  have opr : ∀ {i : Int}, pIC bMod (fun i j => i % j) (.int i) (.int 2147483587) = some (.int (i % 2147483587)) := by
    intro i
    rw [pIC_int, mm, if_pos rfl]
  have go : WS (b__law_cell [some (.p (scrJ ns)), some (.p (.int (t : Int))), none, none] S) fun f T => ∃ v : Int, f = .rt (.p (.int v)) ∧ T = S := by
    unfold b__law_cell
    by_cases h : t < ns.length
    · have h2 : ((t : Int) < ((ns.length : Nat) : Int)) := by omega
      rw [decide_eq_true h2] at e1
      have hx : pIx (scrJ ns) (.int (t : Int)) = some (.int ns[t]) := by
        show atI (ns.map P.int) (t : Int) = _
        refine atN ?_
        rw [List.getElem?_map, List.getElem?_eq_getElem h]
        rfl
      refine ⟨.rt (.p (.int ns[t])), S, ?_, _, rfl, rfl⟩
      exact ev_seq (ev_sif e1 (ifK_t (ev_ret (ev_call (ev_acons (ev_item (d := .p (scrJ ns)) (e := .p (.int (t : Int))) rfl rfl (ixv_p hx)) ev_anil) (rds_c (rd_p _ _) (rds_nil _)) rfl)))) rfl
    · have h2 : ¬ ((t : Int) < ((ns.length : Nat) : Int)) := by omega
      rw [decide_eq_false h2] at e1
      refine ws_seq (ev_sif e1 (ifK_f rfl)) ?_
      refine ws_seq (ev_asg (ev_bin (ev_bin ev_c (ev_var rfl) (rd_p _ _) (rd_p _ _) (opm (bm _))) ev_c (rd_p _ _) (rd_p _ _) rfl) rfl) ?_
      have hi : itOf (eSl (eVar 0) oNo (oYes (eC (.int 4)))) [some (.p (scrJ ns)), some (.p (.int (t : Int))), some (.p (.int (7919 * (t : Int) + 4021))), none] S = .ok ((cutP ns none (some 4)).map P.int) S := by
        have e2 : pSl none (some 4) (scrJ ns) = some (.lst ((cutP ns none (some 4)).map P.int)) := by
          show some (P.lst (cutP (ns.map P.int) none (some 4))) = _
          rw [cutJ_map]
        exact ev_itOf (ev_sl (d := .p (scrJ ns)) rfl ev_ono (ev_oyes ev_c) (rd_p _ _) e2) fr_p rfl
      refine ws_seqW (ws_forM (us := cutP ns none (some 4)) (fun i ρ T => (∃ mx a3, ρ = [some (.p (scrJ ns)), some (.p (.int (t : Int))), some (.p (.int mx)), a3]) ∧ T = S) hi ⟨⟨_, _, rfl⟩, rfl⟩ ?_ ?_)
      · rintro i u ρ T hu ⟨⟨mx, a3, rfl⟩, rfl⟩
        exact ⟨_, _, rfl, ws_of (ev_asg (ev_bin (ev_call (ev_acons (ev_bin (ev_bin (ev_bin (ev_var rfl) ev_c (rd_p _ _) (rd_p _ _) (opm (bm2 _))) (ev_var rfl) (rd_p _ _) (rd_p _ _) rfl) ev_c (rd_p _ _) (rd_p _ _) rfl) ev_anil) (rds_c (rd_p _ _) (rds_nil _)) rfl) ev_c (rd_p _ _) (rd_p _ _) opr) rfl) ⟨_, .inl rfl, ⟨_, _, rfl⟩, rfl⟩⟩
      · rintro ρ' S' ⟨⟨mx, a3, rfl⟩, rfl⟩
        exact ⟨_, rfl, ws_of (ev_ret (ev_var rfl)) ⟨_, rfl, rfl⟩⟩
  obtain ⟨f, T, e, v, rfl, rfl⟩ := go
  refine ⟨v, ?_⟩
  unfold m__law_cell
  refine ev_mkF rfl rfl e ?_
  rw [endF_p]
  simp
theorem ev_cut {m : ME} {ρ : En} {S S1 S2 : Sto} {d : Vl} {x : P} (h : m ρ S = .ok d S1) (hf : frz d S1 = .ok x S2) : eCut m ρ S = .ok (.p x) (S2.take S.length) := by
  unfold eCut
  rw [h]
  show ((frz d S1).bind fun x S2 => Res.ok (Vl.p x) (S2.take S.length)) = _
  rw [hf]
  rfl
end Law

namespace Law
open PySem L2 Mir Pl
def kindsP : List P := [.str [97, 108, 108], .str [109, 101, 101, 116, 105, 110, 103], .str [112, 105, 110, 110, 101, 100], .str [98, 111, 116, 104], .str [112, 97, 114, 116, 101, 100], .str [112, 108, 97, 105, 110]]
theorem kinds_ok (S : Sto) : m__law_kinds [] S = .ok (.p (.lst kindsP)) S := by
  unfold m__law_kinds
  refine ev_mkF rfl rfl (S1 := S) (f := .rt (.p (.lst kindsP))) rfl ?_
  rw [endF_p]
  simp
theorem take_kind {S : Sto} {k : Nat} (hu : Jar S k) {ρ : En} (hρ : ρ[0]? = some (some (.c k))) : ∃ x S', eFn m__law_take (aCons (eVar 0) (aCons (eFn m__law_kinds aNil) aNil)) ρ S = .ok (.p x) S' ∧ x ∈ kindsP ∧ Jx k S S' := by
  obtain ⟨x, S', e, hx, jx⟩ := take_ok (xs := kindsP) hu (by decide) (by decide)
  exact ⟨x, S', ev_fn (ev_acons (ev_var hρ) (ev_acons (ev_fn ev_anil (kinds_ok S)) ev_anil)) e, hx, jx⟩
end Law

namespace Law
open PySem L2 Mir Pl
theorem jar_okc {ns : List Int} (hn : ns.length ≤ 63) {t : Nat} (S : Sto) : ∃ c, m__law_jar [.p (scrJ ns), .p (.int (t : Int))] S = .ok (.c S.length) (S ++ [c]) ∧ Jar (S ++ [c]) S.length := by
  obtain ⟨v, hv⟩ := cell_ok hn (t := t) S
  have bm : ∀ i : Int, bMul 907 i = true := fun i => bMul_l (by decide) (by decide)
  have mm : ∀ i : Int, bMod i 2147483587 = true := fun i => bMod_of (by decide)
  have opm : ∀ {i j : Int}, bMul i j = true → pMul (.int i) (.int j) = some (.int (i * j)) := fun h => by rw [pMul_int, h, if_pos rfl]
  have opr : ∀ {i : Int}, pIC bMod (fun i j => i % j) (.int i) (.int 2147483587) = some (.int (i % 2147483587)) := by
    intro i
    rw [pIC_int, mm, if_pos rfl]
  have go : WS (b__law_jar [some (.p (scrJ ns)), some (.p (.int (t : Int))), none] S) fun f T => ∃ a b : Int, f = .rt (.c S.length) ∧ T = S ++ [.lst [.int a, .int b, .int 0]] ∧ 0 ≤ a ∧ 0 ≤ b ∧ b < 2147483587 := by
    unfold b__law_jar
    refine ws_seq (ev_asg (ev_call (ev_acons (ev_fn (ev_acons (ev_var rfl) (ev_acons (ev_var rfl) ev_anil)) hv) ev_anil) (rds_c (rd_p _ _) (rds_nil _)) (pAbs_int _)) rfl) ?_
    have ha : 0 ≤ (if v < 0 then -v else v) := by split <;> omega
    exact ws_of (ev_ret (ev_lstC (ev_acons (ev_var rfl) (ev_acons (ev_bin (ev_call (ev_acons (ev_bin (ev_var rfl) (ev_bin ev_c (ev_var rfl) (rd_p _ _) (rd_p _ _) (opm (bm _))) (rd_p _ _) (rd_p _ _) rfl) ev_anil) (rds_c (rd_p _ _) (rds_nil _)) rfl) ev_c (rd_p _ _) (rd_p _ _) opr) (ev_acons ev_c ev_anil))) (frzs_s fr_p (frzs_s fr_p (frzs_s fr_p frzs_z))) (by simp))) ⟨_, _, rfl, rfl, ha, Int.emod_nonneg _ (by decide), Int.emod_lt_of_pos _ (by decide)⟩
  obtain ⟨f, T, e, a, b, rfl, rfl, ha, hb0, hb1⟩ := go
  refine ⟨.lst [.int a, .int b, .int 0], ?_, ⟨a, b, 0, by simp, ha, hb0, hb1, by decide⟩⟩
  unfold m__law_jar
  have hk : mkK 2 1 b__law_jar [.p (scrJ ns), .p (.int (t : Int))] S = endK S.length (b__law_jar [some (.p (scrJ ns)), some (.p (.int (t : Int))), none] S) := rfl
  rw [hk, e]
  unfold endK
  dsimp only
  have h0 : (S ++ [Cell.lst [.int a, .int b, .int 0]])[S.length]? = some (.lst [.int a, .int b, .int 0]) := by simp
  rw [if_neg (by omega), h0]
  dsimp only
  rw [take_app]
theorem jx_take {T S S' : Sto} {k : Nat} (h : Jx k S S') (hk : T.length ≤ k) (hT : S.take T.length = T) : S'.take T.length = T := by
  rw [← hT]
  apply List.ext_getElem?
  intro j
  have hl : (S.take T.length).length = T.length := by rw [hT]
  rw [hl]
  by_cases hj : j < T.length
  · rw [List.getElem?_take_of_lt hj, List.getElem?_take_of_lt hj]
    exact h.oth j (by omega)
  · rw [List.getElem?_eq_none (by rw [List.length_take]; omega), List.getElem?_eq_none (by rw [List.length_take]; omega)]
section
variable {R U : MF} {ns : List Int} {T : Sto}
theorem loopJT (hR : ∀ S k, Jar S k → k = T.length → S.length = T.length + 1 → S.take T.length = T → ∃ S', R [.c k] S = .ok (.p (.bl true)) S' ∧ Jx k S S') (hU : ∀ t : Nat, ∃ c, U [.p (scrJ ns), .p (.int ((t : Nat) : Int))] T = .ok (.c T.length) (T ++ [c]) ∧ Jar (T ++ [c]) T.length) :
    ∀ (l : List Nat), lcGo (gNm 1) tsYes (eCut (eFn R (aCons (eFn U (aCons (eVar 0) (aCons (eVar 1) aNil))) aNil))) [some (.p (scrJ ns)), none] (l.map fun (k : Nat) => P.int (k : Int)) T = .ok (l.map fun _ => P.bl true) T
  | [] => rfl
  | t :: l => by
    obtain ⟨c, e1, u1⟩ := hU t
    obtain ⟨S2, e2, j2⟩ := hR (T ++ [c]) T.length u1 rfl (by simp) (by simp)
    have e3 := jx_take (T := T) j2 (Nat.le_refl _) (by simp)
    have ec := ev_cut (ev_fn (ev_acons (ev_fn (ev_acons (ev_var (ρ := [some (.p (scrJ ns)), some (.p (.int (t : Int)))]) (i := 0) rfl) (ev_acons (ev_var (i := 1) rfl) ev_anil)) e1) ev_anil) e2) fr_p
    rw [e3] at ec
    exact lcx_yes (ev_gnm rfl) ec fr_p (loopJT hR hU l)
theorem endJT {K : Nat} (hK : 2 ≤ K) (hK2 : K < 100) (hR : ∀ S k, Jar S k → k = T.length → S.length = T.length + 1 → S.take T.length = T → ∃ S', R [.c k] S = .ok (.p (.bl true)) S' ∧ Jx k S S') (hU : ∀ t : Nat, ∃ c, U [.p (scrJ ns), .p (.int ((t : Nat) : Int))] T = .ok (.c T.length) (T ++ [c]) ∧ Jar (T ++ [c]) T.length) {kl : Int} (hkl : kl = (K : Int)) :
    ∃ S', mkF 1 1 (sRet (eCall pAll (aCons (eLc (itRange1 (eCall pMax2 (aCons (eC (.int 2)) (aCons (eCall pMin2 (aCons (eCall pLen (aCons (eVar 0) aNil)) (aCons (eC (.int kl)) aNil))) aNil)))) [1] (gNm 1) tsYes (eCut (eFn R (aCons (eFn U (aCons (eVar 0) (aCons (eVar 1) aNil))) aNil)))) aNil))) [.p (scrJ ns)] T = .ok (.p (.bl true)) S' := by
  have e0 : pLen [scrJ ns] = some (.int ((ns.length : Nat) : Int)) := by
    unfold scrJ
    rw [pLen_scr, List.length_map]
  let n : Nat := max 2 (min ns.length K)
  have hr : itRange1 (eCall pMax2 (aCons (eC (.int 2)) (aCons (eCall pMin2 (aCons (eCall pLen (aCons (eVar 0) aNil)) (aCons (eC (.int kl)) aNil))) aNil))) [some (.p (scrJ ns)), none] T = .ok ((List.range n).map fun (k : Nat) => P.int (k : Int)) T := by
    refine ev_range1i (i := ((n : Nat) : Int)) ?_ rfl (by omega)
    have e1 : pMax2 [.int 2, .int (if kl < ((ns.length : Nat) : Int) then kl else ((ns.length : Nat) : Int))] = some (.int ((n : Nat) : Int)) := by
      show some (P.int (if (if kl < ((ns.length : Nat) : Int) then kl else ((ns.length : Nat) : Int)) > 2 then (if kl < ((ns.length : Nat) : Int) then kl else ((ns.length : Nat) : Int)) else 2)) = _
      congr 2
      subst hkl
      split <;> split <;> omega
    exact ev_call (ev_acons ev_c (ev_acons (ev_call (ev_acons (ev_call (ev_acons (ev_var rfl) ev_anil) (rds_c (rd_p _ _) (rds_nil _)) e0) (ev_acons ev_c ev_anil)) (rds_c (rd_p _ _) (rds_c (rd_p _ _) (rds_nil _))) rfl) ev_anil)) (rds_c (rd_p _ _) (rds_c (rd_p _ _) (rds_nil _))) e1
  have e := loopJT (R := R) (U := U) hR hU (List.range n)
  refine ⟨T, ev_mkF rfl rfl (ev_ret (ev_call (ev_acons (ev_lcx hr (by rw [List.length_map, List.length_range]; omega) rfl e) ev_anil) (rds_c (rd_p _ _) (rds_nil _)) op_all)) ?_⟩
  rw [endF_p]
  simp
end
end Law

namespace Law
open PySem L2 Mir Pl
theorem txt_1000 {t : Tr} (h : t.dep ≤ 10) : t.txt.length ≤ 7000 := by
  have a := txt_len t
  have : 2 ^ t.dep ≤ 2 ^ 10 := Nat.pow_le_pow_right (by decide) h
  have h16 : 2 ^ 10 = 1024 := rfl
  omega
theorem lterm_ok {ls : List Nat} (hne : ls ≠ []) (hlen : ls.length ≤ 3) : ∀ (d f : Nat), d < f → d ≤ 10 → ∀ (most : Int) {S : Sto} {k : Nat}, Jar S k →
    ∃ (t : Tr) (S' : Sto), m__law_term f [.c k, .p (lsP ls), .p (.int most), .p (.int (d : Int))] S = .ok (.p (.str t.txt)) S' ∧ t.ok ls ∧ t.dep ≤ d ∧ Jx k S S'
  | d, 0, hd, _, most, S, k, hu => absurd hd (Nat.not_lt_zero _)
  | d, f + 1, hd, h10, most, S, k, hu => by
    obtain ⟨r, S1, e1, r0, r1, u1⟩ := dig_ok (n := 9) hu (by decide) (by decide)
    obtain ⟨q, rfl⟩ := Int.eq_ofNat_of_zero_le r0
    have hq : q < 9 := by omega
    have s1 : sAsg (eFn m__law_dig (aCons (eVar 0) (aCons (eC (.int 9)) aNil))) (gNm 4) [some (.c k), some (.p (lsP ls)), some (.p (.int most)), some (.p (.int (d : Int))), none, none, none, none] S = .ok (.nx [some (.c k), some (.p (lsP ls)), some (.p (.int most)), some (.p (.int (d : Int))), some (.p (.int (q : Int))), none, none, none]) S1 := ev_asg (ev_fn (ev_acons (ev_var rfl) (ev_acons ev_c ev_anil)) e1) (ev_gnm rfl)
    show ∃ (t : Tr) (S' : Sto), mkF 4 4 (b__law_term (m__law_term f)) _ S = .ok (.p (.str t.txt)) S' ∧ _
    unfold b__law_term
    by_cases h0 : d = 0 ∨ q = 0
    · obtain ⟨r2, S2, e2, r20, r21, u2⟩ := dig_ok (n := 6) u1.jar (by decide) (by decide)
      obtain ⟨q2, rfl⟩ := Int.eq_ofNat_of_zero_le r20
      have t0 : tOrM (tVal (eBin pEq (eVar 3) (eC (.int 0)))) (tVal (eBin pEq (eVar 4) (eC (.int 0)))) [some (.c k), some (.p (lsP ls)), some (.p (.int most)), some (.p (.int (d : Int))), some (.p (.int (q : Int))), none, none, none] S1 = .ok true S1 := by
        by_cases hd0 : d = 0
        · exact ev_tor (ev_tval (ev_bin (ev_var rfl) ev_c rfl rfl (eq0_t hd0))) orK_t
        · exact ev_tor (ev_tval (ev_bin (ev_var rfl) ev_c rfl rfl (eq0_f hd0))) (orK_f (ev_tval (ev_bin (ev_var rfl) ev_c rfl rfl (eq0_t (by omega)))))
      by_cases h2 : q2 = 0
      · obtain ⟨x, S3, e3, hx3, u3⟩ := take_ok (xs := ls.map (fun c => P.str [c]) ++ [.str [48], .str [49]]) u2.jar (by simp) (by simp; omega)
        have u13 := (u1.trans u2).trans u3
        obtain ⟨c, rfl, hc⟩ : ∃ c, x = P.str [c] ∧ (c ∈ ls ∨ c = 48 ∨ c = 49) := by
          rcases List.mem_append.mp hx3 with z | z
          · obtain ⟨c, hc, rfl⟩ := List.mem_map.mp z
            exact ⟨c, rfl, .inl hc⟩
          · have : x = .str [48] ∨ x = .str [49] := by simpa using z
            rcases this with z | z
            · exact ⟨48, z, .inr (.inl rfl)⟩
            · exact ⟨49, z, .inr (.inr rfl)⟩
        refine ⟨.leaf c, S3, ?_, hc, Nat.zero_le _, u13⟩
        refine ws_mkFe (ρ := [some (.c k), some (.p (lsP ls)), some (.p (.int most)), some (.p (.int (d : Int))), none, none, none, none]) rfl rfl ?_
        exact ws_seq s1 (ws_of (ev_seq (ev_sif t0 (ifK_t (ev_ret (ev_if (ev_tval (ev_bin (ev_fn (ev_acons (ev_var rfl) (ev_acons ev_c ev_anil)) e2) ev_c rfl rfl (eq0_t h2))) (ifK_t (ev_fn (ev_acons (ev_var rfl) (ev_acons (ev_bin (ev_var rfl) (ev_lst (ev_acons ev_c (ev_acons ev_c ev_anil)) (frzs_s fr_p (frzs_s fr_p frzs_z)) (by simp)) rfl rfl (op_addL (by simp; omega))) ev_anil)) e3)))))) thn_r) (end_len u13.len))
      · obtain ⟨x, S3, e3, hx3, u3⟩ := take_ok (xs := ls.map (fun c => P.str [c])) u2.jar (by simpa using hne) (by rw [List.length_map]; omega)
        have u13 := (u1.trans u2).trans u3
        obtain ⟨c, hc, rfl⟩ := List.mem_map.mp hx3
        refine ⟨.leaf c, S3, ?_, .inl hc, Nat.zero_le _, u13⟩
        refine ws_mkFe (ρ := [some (.c k), some (.p (lsP ls)), some (.p (.int most)), some (.p (.int (d : Int))), none, none, none, none]) rfl rfl ?_
        exact ws_seq s1 (ws_of (ev_seq (ev_sif t0 (ifK_t (ev_ret (ev_if (ev_tval (ev_bin (ev_fn (ev_acons (ev_var rfl) (ev_acons ev_c ev_anil)) e2) ev_c rfl rfl (eq0_f h2))) (ifK_f (ev_fn (ev_acons (ev_var rfl) (ev_acons (ev_var rfl) ev_anil)) e3)))))) thn_r) (end_len u13.len))
    · have t0 : tOrM (tVal (eBin pEq (eVar 3) (eC (.int 0)))) (tVal (eBin pEq (eVar 4) (eC (.int 0)))) [some (.c k), some (.p (lsP ls)), some (.p (.int most)), some (.p (.int (d : Int))), some (.p (.int (q : Int))), none, none, none] S1 = .ok false S1 := ev_tor (ev_tval (ev_bin (ev_var rfl) ev_c rfl rfl (eq0_f (by omega)))) (orK_f (ev_tval (ev_bin (ev_var rfl) ev_c rfl rfl (eq0_f (by omega)))))
      have sb : ∀ {ρ : En} {T : Sto}, ρ[3]? = some (some (.p (.int (d : Int)))) → eBin (pI fun i j => i - j) (eVar 3) (eC (.int 1)) ρ T = .ok (.p (.int ((d - 1 : Nat) : Int))) T := fun hρ => ev_bin (ev_var hρ) ev_c rfl rfl (op_sub1 (by omega))
      have gt : pIB (fun i j => decide (j < i)) (.int most) (.int 0) = some (.bl (decide (0 < most))) := rfl
      have l4 := op_ltN (a := q) (b := 4)
      have l6 := op_ltN (a := q) (b := 6)
      by_cases h4 : q < 4 ∧ 0 < most
      · -- c or i
        rw [decide_eq_true h4.1] at l4
        rw [decide_eq_true h4.2] at gt
        obtain ⟨x, S2, e2, hx2, u2⟩ := take_ok (xs := [.str [99], .str [105]]) u1.jar (by simp) (by simp)
        obtain ⟨s, rfl, hs⟩ : ∃ s, x = P.str [s] ∧ s ∈ deedS := by
          have : x = .str [99] ∨ x = .str [105] := by simpa using hx2
          rcases this with z | z
          · exact ⟨99, z, by decide⟩
          · exact ⟨105, z, by decide⟩
        obtain ⟨t, S3, e3, ok3, dp3, u3⟩ := lterm_ok hne hlen (d - 1) f (by omega) (by omega) (most - 1) u2.jar
        have tl := txt_1000 (t := t) (by omega)
        have u13 := (u1.trans u2).trans u3
        refine ⟨.un s t, S3, ?_, ⟨hs, ok3⟩, by show t.dep + 1 ≤ d; omega, u13⟩
        refine ws_mkFe (ρ := [some (.c k), some (.p (lsP ls)), some (.p (.int most)), some (.p (.int (d : Int))), none, none, none, none]) rfl rfl ?_
        refine ws_seq s1 (ws_seq (ev_sif t0 (ifK_f ev_pass)) (ws_of (ev_seq (ev_sif (ev_tand (ev_tval (ev_bin (ev_var rfl) ev_c rfl rfl l4)) (andK_t (ev_tval (ev_bin (ev_var rfl) ev_c rfl rfl gt)))) (ifK_t (ev_ret (ev_bin (ev_bin (ev_bin (ev_fn (ev_acons (ev_var rfl) (ev_acons (ev_lst (ev_acons ev_c (ev_acons ev_c ev_anil)) (frzs_s fr_p (frzs_s fr_p frzs_z)) (by simp)) ev_anil)) e2) ev_c rfl rfl (op_addS (by simp))) (ev_fn (ev_acons (ev_var rfl) (ev_acons (ev_var rfl) (ev_acons (ev_bin (ev_var rfl) ev_c rfl rfl rfl) (ev_acons (sb rfl) ev_anil)))) e3) rfl rfl (op_addS (by simp; omega))) ev_c rfl rfl (op_addS (by simp; omega)))))) thn_r) ?_))
        rw [end_len u13.len]
        rfl
      · have t4 : tAndM (tVal (eBin bLt (eVar 4) (eC (.int 4)))) (tVal (eBin (pIB fun i j => decide (j < i)) (eVar 2) (eC (.int 0)))) [some (.c k), some (.p (lsP ls)), some (.p (.int most)), some (.p (.int (d : Int))), some (.p (.int (q : Int))), none, none, none] S1 = .ok false S1 := by
          by_cases hq4 : q < 4
          · have hm0 : ¬ 0 < most := fun z => h4 ⟨hq4, z⟩
            rw [decide_eq_true hq4] at l4
            rw [decide_eq_false hm0] at gt
            exact ev_tand (ev_tval (ev_bin (ev_var rfl) ev_c rfl rfl l4)) (andK_t (ev_tval (ev_bin (ev_var rfl) ev_c rfl rfl gt)))
          · rw [decide_eq_false hq4] at l4
            exact ev_tand (ev_tval (ev_bin (ev_var rfl) ev_c rfl rfl l4)) andK_f
        by_cases h6 : q < 6
        · rw [decide_eq_true h6] at l6
          obtain ⟨t, S3, e3, ok3, dp3, u3⟩ := lterm_ok hne hlen (d - 1) f (by omega) (by omega) most u1.jar
          have tl := txt_1000 (t := t) (by omega)
          have u13 := u1.trans u3
          refine ⟨.un 110 t, S3, ?_, ⟨by decide, ok3⟩, by show t.dep + 1 ≤ d; omega, u13⟩
          refine ws_mkFe (ρ := [some (.c k), some (.p (lsP ls)), some (.p (.int most)), some (.p (.int (d : Int))), none, none, none, none]) rfl rfl ?_
          refine ws_seq s1 (ws_seq (ev_sif t0 (ifK_f ev_pass)) (ws_seq (ev_sif t4 (ifK_f ev_pass)) (ws_of (ev_seq (ev_sif (ev_tval (ev_bin (ev_var rfl) ev_c rfl rfl l6)) (ifK_t (ev_ret (ev_bin (ev_bin ev_c (ev_fn (ev_acons (ev_var rfl) (ev_acons (ev_var rfl) (ev_acons (ev_var rfl) (ev_acons (sb rfl) ev_anil)))) e3) rfl rfl (op_addS (by simp; omega))) ev_c rfl rfl (op_addS (by simp; omega)))))) thn_r) ?_)))
          rw [end_len u13.len]
          rfl
        · rw [decide_eq_false h6] at l6
          obtain ⟨t, S2, e2, ok2, dp2, u2⟩ := lterm_ok hne hlen (d - 1) f (by omega) (by omega) (most / 2) u1.jar
          have tl2 := txt_1000 (t := t) (by omega)
          obtain ⟨x, S3, e3, hx3, u3⟩ := take_ok (xs := [.str [32, 38, 32], .str [32, 124, 32]]) u2.jar (by simp) (by simp)
          obtain ⟨s, rfl, hs⟩ : ∃ s, x = P.str [32, s, 32] ∧ (s = 38 ∨ s = 124) := by
            have : x = .str [32, 38, 32] ∨ x = .str [32, 124, 32] := by simpa using hx3
            rcases this with z | z
            · exact ⟨38, z, .inl rfl⟩
            · exact ⟨124, z, .inr rfl⟩
          obtain ⟨c1, hc1⟩ : ∃ c1 : Int, pCount (.str t.txt) [.str [99]] = some (.int c1) := ⟨_, rfl⟩
          obtain ⟨c2, hc2⟩ : ∃ c2 : Int, pCount (.str t.txt) [.str [105]] = some (.int c2) := ⟨_, rfl⟩
          obtain ⟨t', S4, e4, ok4, dp4, u4⟩ := lterm_ok hne hlen (d - 1) f (by omega) (by omega) (most - (c1 + c2)) u3.jar
          have tl4 := txt_1000 (t := t') (by omega)
          have u14 := ((u1.trans u2).trans u3).trans u4
          have dv : pIC bDiv (fun i j => i / j) (.int most) (.int 2) = some (.int (most / 2)) := by
            rw [pIC_int, bDiv_of (by decide) (by decide), if_pos rfl]
          refine ⟨.bin s t t', S4, ?_, ⟨hs, ok2, ok4⟩, by show max t.dep t'.dep + 1 ≤ d; omega, u14⟩
          refine ws_mkFe (ρ := [some (.c k), some (.p (lsP ls)), some (.p (.int most)), some (.p (.int (d : Int))), none, none, none, none]) rfl rfl ?_
          refine ws_seq s1 (ws_seq (ev_sif t0 (ifK_f ev_pass)) (ws_seq (ev_sif t4 (ifK_f ev_pass)) (ws_seq (ev_sif (ev_tval (ev_bin (ev_var rfl) ev_c rfl rfl l6)) (ifK_f ev_pass)) ?_)))
          refine ws_seq (ev_asg (ev_fn (ev_acons (ev_var rfl) (ev_acons (ev_var rfl) (ev_acons (ev_bin (ev_var rfl) ev_c rfl rfl dv) (ev_acons (sb rfl) ev_anil)))) e2) (ev_gnm rfl)) ?_
          refine ws_seq (ev_asg (ev_bin (ev_mth (ev_var rfl) rfl rfl (ev_acons ev_c ev_anil) rfl (rds_c rfl (rds_nil _)) hc1) (ev_mth (ev_var rfl) rfl rfl (ev_acons ev_c ev_anil) rfl (rds_c rfl (rds_nil _)) hc2) rfl rfl rfl) (ev_gnm rfl)) ?_
          refine ws_seq (ev_asg (ev_fn (ev_acons (ev_var rfl) (ev_acons (ev_lst (ev_acons ev_c (ev_acons ev_c ev_anil)) (frzs_s fr_p (frzs_s fr_p frzs_z)) (by simp)) ev_anil)) e3) (ev_gnm rfl)) ?_
          refine ws_of (ev_ret (ev_bin (ev_bin (ev_bin (ev_bin ev_c (ev_var rfl) rfl rfl (op_addS (by simp; omega))) (ev_var rfl) rfl rfl (op_addS (by simp; omega))) (ev_fn (ev_acons (ev_var rfl) (ev_acons (ev_var rfl) (ev_acons (ev_bin (ev_var rfl) (ev_var rfl) rfl rfl rfl) (ev_acons (sb rfl) ev_anil)))) e4) rfl rfl (op_addS (by simp; omega))) ev_c rfl rfl (op_addS (by simp; omega)))) ?_
          rw [end_len u14.len]
          show Res.ok (Vl.p (P.str _)) S4 = Res.ok (Vl.p (P.str _)) S4
          congr 3
          simp [Tr.txt]
end Law

namespace Law
open PySem L2 Mir Pl
theorem ev_isi_argS {ρ : En} {S : Sto} {i : Nat} {x : P} (h : okV x = true) (hv : ρ[i]? = some (some (.p x))) : eIsi isiCs (eVar i) (eC (.ty "str")) ρ S = .ok (.p (.bl (isStrP x))) S := by
  obtain ⟨T, t1, t2⟩ := isi_str h S
  exact ev_isi (ev_var hv) ev_c t1 t2
abbrev LAM : Cell := .tbl "_law_right" "_law_right.<locals>.<lambda>"
theorem caught_wv {j : Sto → Res Vl} {S : Sto} {c f : PySem.Str} {z : P} {nm : List Nat} (hj : j S = .exc c (some ([f], [z])) S) (h1 : sbAt exT c "WrongValue" = some true) (hs : m__law_sort c (some ([f], [z])) S = .ok (.p (.tup [.str nm, z])) S) : m__law_caught j S = .ok (.p (.tup [.str nm, z])) S := by
  unfold m__law_caught
  refine job_exc hj ?_ end_self
  unfold hs__law_caught
  exact try_yes h1 rfl (ev_ret hs)
abbrev tgP (nm : List Nat) (z : P) : P := .tup [.str nm, z]
abbrev nNT : List Nat := [78, 111, 116, 65, 84, 101, 114, 109]
abbrev nIK : List Nat := [73, 110, 118, 97, 108, 105, 100, 75, 105, 110, 100]
abbrev nIN : List Nat := [73, 110, 118, 97, 108, 105, 100, 78, 117, 109, 98, 101, 114]
theorem caught_IK {j : Sto → Res Vl} {S : Sto} {z : P} (hj : j S = .exc "InvalidKind" (some (["given"], [z])) S) : m__law_caught j S = .ok (.p (tgP nIK z)) S := caught_wv hj (by kernel_rfl) (by kernel_rfl)
theorem caught_NT {j : Sto → Res Vl} {S : Sto} {z : P} (hj : j S = .exc "NotATerm" (some (["given"], [z])) S) : m__law_caught j S = .ok (.p (tgP nNT z)) S := caught_wv hj (by kernel_rfl) (by kernel_rfl)
theorem caught_IN {j : Sto → Res Vl} {S : Sto} {z : P} (hj : j S = .exc "InvalidNumber" (some (["given"], [z])) S) : m__law_caught j S = .ok (.p (tgP nIN z)) S := caught_wv hj (by kernel_rfl) (by kernel_rfl)
def NoOwn (x : P) : Prop := ∃ T, T ∈ comTy ∧ tgOf ([] : Sto) (.p x) = some (.b T)
theorem isi_no {x : P} (hx : NoOwn x) {c : PySem.Str} (hc : ∀ T ∈ comTy, isT isiCs (.b T) (.glo c) = some false) {ρ : En} {S : Sto} {i : Nat} (hv : ρ[i]? = some (some (.p x))) : eIsi isiCs (eVar i) (eC (.glo c)) ρ S = .ok (.p (.bl false)) S := by
  obtain ⟨T, hT, ht⟩ := hx
  have ht' : tgOf S (nv S (.p x)) = some (.b T) := by
    rw [nv_p]
    cases x <;> first | exact ht | cases ht
  exact ev_isi (ev_var hv) ev_c ht' (hc T hT)
theorem check_term_exc {x : P} (hx : NoOwn x) (S : Sto) : m_check_term [.p x] S = .exc "NotATerm" (some (["given"], [x])) S := by
  unfold m_check_term
  refine ex_mkF rfl rfl ?_ take_self'
  unfold b_check_term
  exact ⟨_, ev_sif (ev_tnot (ev_tval (isi_no hx (by decide) rfl)) rfl) (ifK_t (exs_raise (ev_acons (ev_var rfl) ev_anil) fr_p))⟩
def KWT : P := .tup [.str [97, 108, 108], .str [109, 101, 101, 116, 105, 110, 103], .str [112, 105, 110, 110, 101, 100], .str [98, 111, 116, 104], .str [112, 97, 114, 116, 101, 100], .str [112, 108, 97, 105, 110]]
theorem check_kind_exc {x : P} (hx : okV x = true) (hw : isStrP x = true → pNotIn2 x KWT = some (.bl true)) (S : Sto) : m_check_kind [.p x] S = .exc "InvalidKind" (some (["given"], [x])) S := by
  unfold m_check_kind
  refine ex_mkF rfl rfl ?_ take_self'
  unfold b_check_kind
  refine ⟨_, ev_sif (q := true) ?_ (ifK_t (exs_raise (ev_acons (ev_var rfl) ev_anil) fr_p))⟩
  have e1 := ev_tnot (ev_tval (ev_isi_argS (i := 0) (S := S) (ρ := [some (.p x)]) hx rfl)) rfl
  cases hs : isStrP x with
  | false =>
    rw [hs] at e1
    exact ev_tor e1 orK_t
  | true =>
    rw [hs] at e1
    exact ev_tor e1 (orK_f (ev_tval (ev_bin (ev_var rfl) ev_c (rd_p _ _) (rd_p _ _) (hw hs))))
def wrongL : List P := [.str [101, 118, 101, 114, 121], .str [65, 108, 108], .non, .int 0, .tup [.str [97, 108, 108]], .lst [.str [97, 108, 108]], .str [], .bl true]
theorem wrong_exc {x : P} (hx : x ∈ wrongL) (S : Sto) : m_check_kind [.p x] S = .exc "InvalidKind" (some (["given"], [x])) S := by
  have hx : x = .str [101, 118, 101, 114, 121] ∨ x = .str [65, 108, 108] ∨ x = .non ∨ x = .int 0 ∨ x = .tup [.str [97, 108, 108]] ∨ x = .lst [.str [97, 108, 108]] ∨ x = .str [] ∨ x = .bl true := by
    simpa only [wrongL, List.mem_cons, List.not_mem_nil, or_false] using hx
  rcases hx with rfl | rfl | rfl | rfl | rfl | rfl | rfl | rfl <;> exact check_kind_exc rfl (fun h => by first | (cases h; done) | rfl | kernel_rfl) S
end Law

namespace Law
open PySem L2 Mir Pl
theorem text_term {ls : List Nat} (hls : Ltr ls) {t : Tr} (hk : t.ok ls) (hl : t.txt.length ≤ 300) (S : Sto) : mkO false "Term" m_Term___init__ [.p (.str t.txt)] S = .ok (.p (trmP t.txt)) S := by
  obtain ⟨r, M, e, _⟩ := read_term hls hk (L := []) ⟨.nil, fun i x hi => by cases hi⟩ (by omega)
  exact make_term hl (txt_asc hls hk) (by rw [e]; rfl) S
theorem xy_ltr : Ltr [120, 121] := fun s hs => by
  have hs : s = 120 ∨ s = 121 := by simpa using hs
  rcases hs with z | z
  · exact .inl z
  · exact .inr (.inl z)
def manyL : List P := [.non, .int 0, .int 5, .bl true, .int (-1), .str [50], .tup [.int 2], .lst [.int 3], .int 100000000000000000000]
def farL : List P := [.non, .int 4, .bl true, .int (-1), .str [50], .tup [.int 2], .lst [.int 3], .int 100000000000000000000]
theorem int_yes (i : Int) (S : Sto) : m_is_integer [.p (.int i)] S = .ok (.p (.bl true)) S := by
  unfold m_is_integer b_is_integer
  refine ev_mkF rfl rfl (ev_ret (ev_eand (q := true) (ev_isi (ev_var rfl) ev_c rfl rfl) (eandK_t (ev_enot (q := false) (ev_isi (ev_var rfl) ev_c rfl rfl) rfl)))) ?_
  rw [endF_p, take_self]
  rfl
theorem int_bl (b : Bool) (S : Sto) : m_is_integer [.p (.bl b)] S = .ok (.p (.bl false)) S := by
  unfold m_is_integer b_is_integer
  refine ev_mkF rfl rfl (ev_ret (ev_eand (q := true) (ev_isi (ev_var rfl) ev_c rfl rfl) (eandK_t (ev_enot (q := true) (ev_isi (ev_var rfl) ev_c rfl rfl) rfl)))) ?_
  rw [endF_p, take_self]
  rfl
theorem int_no {x : P} (h : ∀ S : Sto, ∃ T, tgOf S (nv S (.p x)) = some T ∧ isT isiCs T (.ty "int") = some false) (S : Sto) : m_is_integer [.p x] S = .ok (.p (.bl false)) S := by
  obtain ⟨T, t1, t2⟩ := h S
  unfold m_is_integer b_is_integer
  refine ev_mkF rfl rfl (ev_ret (ev_eand (q := false) (ev_isi (ev_var rfl) ev_c t1 t2) eandK_f)) ?_
  rw [endF_p, take_self]
theorem btw_no {x : P} {lo hi : Int} (h : ∀ S, m_is_integer [.p x] S = .ok (.p (.bl false)) S) (S : Sto) : m_is_between [.p x, .p (.int lo), .p (.int hi)] S = .ok (.p (.bl false)) S := by
  unfold m_is_between b_is_between
  refine ev_mkF rfl rfl (ev_ret (ev_eand (ev_fn (ev_acons (ev_var rfl) ev_anil) (h S)) eandK_f)) ?_
  rw [endF_p, take_self]
theorem btw_int {i lo hi : Int} {b : Bool} (h : ∀ (ρ : En) (S : Sto), ρ = [some (.p (.int i)), some (.p (.int lo)), some (.p (.int hi))] → eChn bLe bLe (eVar 1) (eVar 0) (eVar 2) ρ S = .ok (.p (.bl b)) S) (S : Sto) : m_is_between [.p (.int i), .p (.int lo), .p (.int hi)] S = .ok (.p (.bl b)) S := by
  unfold m_is_between b_is_between
  refine ev_mkF rfl rfl (ev_ret (ev_eand (q := true) (ev_fn (ev_acons (ev_var rfl) ev_anil) (int_yes i S)) (eandK_t (h _ S rfl)))) ?_
  rw [endF_p, take_self]
theorem many_no {x : P} (hx : x ∈ manyL) (S : Sto) : m_is_between [.p x, .p (.int 1), .p (.int 4)] S = .ok (.p (.bl false)) S := by
  have hx : x = .non ∨ x = .int 0 ∨ x = .int 5 ∨ x = .bl true ∨ x = .int (-1) ∨ x = .str [50] ∨ x = .tup [.int 2] ∨ x = .lst [.int 3] ∨ x = .int 100000000000000000000 := by
    simpa only [manyL, List.mem_cons, List.not_mem_nil, or_false] using hx
  rcases hx with rfl | rfl | rfl | rfl | rfl | rfl | rfl | rfl | rfl
  · exact btw_no (int_no fun S => ⟨_, rfl, rfl⟩) S
  · exact btw_int (fun ρ S e => by subst e; rfl) S
  · exact btw_int (fun ρ S e => by subst e; rfl) S
  · exact btw_no (int_bl _) S
  · exact btw_int (fun ρ S e => by subst e; rfl) S
  · exact btw_no (int_no fun S => ⟨_, rfl, rfl⟩) S
  · exact btw_no (int_no fun S => ⟨_, rfl, rfl⟩) S
  · exact btw_no (int_no fun S => ⟨_, rfl, rfl⟩) S
  · exact btw_int (fun ρ S e => by subst e; rfl) S
theorem far_no {x : P} (hx : x ∈ farL) (S : Sto) : m_is_between [.p x, .p (.int 0), .p (.int 3)] S = .ok (.p (.bl false)) S := by
  have hx : x = .non ∨ x = .int 4 ∨ x = .bl true ∨ x = .int (-1) ∨ x = .str [50] ∨ x = .tup [.int 2] ∨ x = .lst [.int 3] ∨ x = .int 100000000000000000000 := by
    simpa only [farL, List.mem_cons, List.not_mem_nil, or_false] using hx
  rcases hx with rfl | rfl | rfl | rfl | rfl | rfl | rfl | rfl
  · exact btw_no (int_no fun S => ⟨_, rfl, rfl⟩) S
  · exact btw_int (fun ρ S e => by subst e; rfl) S
  · exact btw_no (int_bl _) S
  · exact btw_int (fun ρ S e => by subst e; rfl) S
  · exact btw_no (int_no fun S => ⟨_, rfl, rfl⟩) S
  · exact btw_no (int_no fun S => ⟨_, rfl, rfl⟩) S
  · exact btw_no (int_no fun S => ⟨_, rfl, rfl⟩) S
  · exact btw_int (fun ρ S e => by subst e; rfl) S
theorem listed_exc {x : P} (hx : x ∈ manyL) (S : Sto) : m_check_listed [.p x] S = .exc "InvalidNumber" (some (["given"], [x])) S := by
  unfold m_check_listed b_check_listed
  exact ex_mkF rfl rfl ⟨_, ev_sif (ev_tnot (ev_tval (ev_fn (ev_acons (ev_var rfl) (ev_acons ev_c (ev_acons ev_c ev_anil))) (many_no hx _))) rfl) (ifK_t (exs_raise (ev_acons (ev_var rfl) ev_anil) fr_p))⟩ take_self'
theorem listed_2 (S : Sto) : m_check_listed [.p (.int 2)] S = .ok (.p .non) S := by
  unfold m_check_listed b_check_listed
  refine ws_mkFe rfl rfl (ws_of (ev_sif (ev_tnot (ev_tval (ev_fn (ev_acons (ev_var rfl) (ev_acons ev_c (ev_acons ev_c ev_anil))) (btw_int (b := true) (fun ρ S e => by subst e; rfl) _))) rfl) (ifK_f ev_pass)) end_nx)
theorem both_1 {x y : P} (hx : x ∈ manyL) (S : Sto) : m_check_both [.p x, .p y] S = .exc "InvalidNumber" (some (["given"], [x])) S := by
  unfold m_check_both b_check_both
  exact ex_mkF rfl rfl ⟨_, exs_seq (exs_expr (exc_fn (ev_acons (ev_var rfl) ev_anil) (listed_exc hx S)))⟩ take_self'
theorem both_2 {y : P} (hy : y ∈ wrongL) (S : Sto) : m_check_both [.p (.int 2), .p y] S = .exc "InvalidKind" (some (["given"], [y])) S := by
  unfold m_check_both b_check_both
  exact ex_mkF rfl rfl ⟨_, ev_seq (ev_expr (ev_fn (ev_acons (ev_var rfl) ev_anil) (listed_2 S))) (thn_n <| exs_expr (exc_fn (ev_acons (ev_var rfl) ev_anil) (wrong_exc hy S)))⟩ take_self'
section
variable {a b : P} {c : PySem.Str} {x : XD} (h : ∀ S, m_check_both [.p a, .p b] S = .exc c x S)
include h
theorem as_exc (S : Sto) : m_all_spaces [.p a, .p b] S = .exc c x S := by
  unfold m_all_spaces b_all_spaces
  exact ex_mkF rfl rfl ⟨_, exs_seq (exs_expr (exc_fn (ev_acons (ev_var rfl) (ev_acons (ev_var rfl) ev_anil)) (h S)))⟩ take_self'
theorem cs_exc (S : Sto) : m_count_spaces [.p a, .p b] S = .exc c x S := by
  unfold m_count_spaces b_count_spaces
  exact ex_mkF rfl rfl ⟨_, exs_seq (exs_expr (exc_fn (ev_acons (ev_var rfl) (ev_acons (ev_var rfl) ev_anil)) (h S)))⟩ take_self'
theorem us_exc (S : Sto) : m_unlike_spaces [.p a, .p b] S = .exc c x S := by
  unfold m_unlike_spaces b_unlike_spaces
  exact ex_mkF rfl rfl ⟨_, exs_seq (exs_expr (exc_fn (ev_acons (ev_var rfl) (ev_acons (ev_var rfl) ev_anil)) (h S)))⟩ take_self'
end
theorem endW37 {S : Sto} {xs : List P} : endF S.length (.ok (.rt (.c S.length)) (S ++ [.lst xs])) = .ok (.p (.lst xs)) S := by
  show retV S.length (.c S.length) _ = _
  unfold retV
  dsimp only
  rw [if_neg (Nat.lt_irrefl _), frz_lst cell0, bind_ok]
  simp
theorem app1 {T : Sto} {xs : List P} {y : P} (hl : xs.length < 1000) : fApp (.c T.length) [.p y] (T ++ [.lst xs]) = .ok (.p .non) (T ++ [.lst (xs ++ [y])]) := by
  rw [fApp_lst (cell0 (S := T) (c := .lst xs) (T := [])) (by omega)]
  simp
abbrev LAM2 : Cell := .tbl "_law_listed" "_law_listed.<locals>.<lambda>"
theorem listed_of {a b : P} {nm : List Nat} {z : P} (h : ∀ j S, (∀ S, j S = m_all_spaces [.p a, .p b] S ∨ j S = m_count_spaces [.p a, .p b] S ∨ j S = m_unlike_spaces [.p a, .p b] S) → m__law_caught j S = .ok (.p (tgP nm z)) S) {S : Sto} (hS : S[1]? = some LAM2) :
    m__law_listed [.p a, .p b] S = .ok (.p (.lst [tgP nm z, tgP nm z, tgP nm z])) S := by
  have hA : ∀ c : List Cell, (S ++ c)[1]? = some LAM2 := fun c => by
    have := (List.getElem?_eq_some_iff.mp hS).1
    rw [List.getElem?_append_left this]
    exact hS
  unfold m__law_listed b__law_listed
  refine ws_mkFe rfl rfl ?_
  refine ws_seq (ev_asg (ev_lstC (ev_acons (ev_lam hS (h _ _ fun S => .inl rfl)) ev_anil) (frzs_s fr_p frzs_z) (by simp)) (ev_gnm rfl)) ?_
  refine ws_seq (ev_expr (ev_mut (ev_var rfl) (isL_lst cell0) (ev_acons (ev_lam (hA _) (h _ _ fun S => .inr (.inl rfl))) ev_anil) (app1 (by simp)))) ?_
  refine ws_seq (ev_expr (ev_mut (ev_var rfl) (isL_lst cell0) (ev_acons (ev_lam (hA _) (h _ _ fun S => .inr (.inr rfl))) ev_anil) (app1 (by simp)))) ?_
  exact ws_of (ev_ret (ev_var rfl)) endW37
theorem listed_many {x y : P} (hx : x ∈ manyL) {S : Sto} (hS : S[1]? = some LAM2) : m__law_listed [.p x, .p y] S = .ok (.p (.lst [tgP nIN x, tgP nIN x, tgP nIN x])) S :=
  listed_of (fun j S hj => caught_IN (by
    rcases hj S with e | e | e
    · rw [e]; exact as_exc (both_1 hx) S
    · rw [e]; exact cs_exc (both_1 hx) S
    · rw [e]; exact us_exc (both_1 hx) S)) hS
theorem listed_kind {y : P} (hy : y ∈ wrongL) {S : Sto} (hS : S[1]? = some LAM2) : m__law_listed [.p (.int 2), .p y] S = .ok (.p (.lst [tgP nIK y, tgP nIK y, tgP nIK y])) S :=
  listed_of (fun j S hj => caught_IK (by
    rcases hj S with e | e | e
    · rw [e]; exact as_exc (both_2 hy) S
    · rw [e]; exact cs_exc (both_2 hy) S
    · rw [e]; exact us_exc (both_2 hy) S)) hS
def oddL37 : List P := [.non, .str [120], .int 0, .bl true, .tup [], .lst [], .dct [] [], .tup [.str [120]], .str [99, 40, 120, 41], .int (-1)]
theorem odd_no {x : P} (hx : x ∈ oddL37) : NoOwn x := by
  have hx : x = .non ∨ x = .str [120] ∨ x = .int 0 ∨ x = .bl true ∨ x = .tup [] ∨ x = .lst [] ∨ x = .dct [] [] ∨ x = .tup [.str [120]] ∨ x = .str [99, 40, 120, 41] ∨ x = .int (-1) := by
    simpa only [oddL37, List.mem_cons, List.not_mem_nil, or_false] using hx
  rcases hx with rfl | rfl | rfl | rfl | rfl | rfl | rfl | rfl | rfl | rfl <;> exact ⟨_, by decide, rfl⟩
theorem lp_1 {x : P} (hx : NoOwn x) (y z m : P) (S : Sto) : m_least_points [.p x, .p y, .p z, .p m] S = .exc "NotATerm" (some (["given"], [x])) S := by
  unfold m_least_points b_least_points
  exact ex_mkF rfl rfl ⟨_, exs_seq (exs_expr (exc_fn (ev_acons (ev_var rfl) ev_anil) (check_term_exc hx S)))⟩ take_self'
theorem lp_2 (tx : List Nat) {x : P} (hx : NoOwn x) (z m : P) (S : Sto) : m_least_points [.p (trmP tx), .p x, .p z, .p m] S = .exc "NotATerm" (some (["given"], [x])) S := by
  unfold m_least_points b_least_points
  exact ex_mkF rfl rfl ⟨_, ev_seq (ev_expr (ev_fn (ev_acons (ev_var rfl) ev_anil) (check_term_ok tx S))) (thn_n <| exs_seq (exs_expr (exc_fn (ev_acons (ev_var rfl) ev_anil) (check_term_exc hx S))))⟩ take_self'
theorem lp_3 (tx ty : List Nat) {x : P} (hx : x ∈ wrongL) (m : P) (S : Sto) : m_least_points [.p (trmP tx), .p (trmP ty), .p x, .p m] S = .exc "InvalidKind" (some (["given"], [x])) S := by
  unfold m_least_points b_least_points
  exact ex_mkF rfl rfl ⟨_, ev_seq (ev_expr (ev_fn (ev_acons (ev_var rfl) ev_anil) (check_term_ok tx S))) (thn_n <| ev_seq (ev_expr (ev_fn (ev_acons (ev_var rfl) ev_anil) (check_term_ok ty S))) (thn_n <| exs_seq (exs_expr (exc_fn (ev_acons (ev_var rfl) ev_anil) (wrong_exc hx S)))))⟩ take_self'
theorem lp_4 (tx ty : List Nat) {k : List Nat} (hk : k ∈ KW) {m : P} (hm : m ∈ manyL) (S : Sto) : m_least_points [.p (trmP tx), .p (trmP ty), .p (.str k), .p m] S = .exc "InvalidNumber" (some (["given"], [m])) S := by
  unfold m_least_points b_least_points
  exact ex_mkF rfl rfl ⟨_, ev_seq (ev_expr (ev_fn (ev_acons (ev_var rfl) ev_anil) (check_term_ok tx S))) (thn_n <| ev_seq (ev_expr (ev_fn (ev_acons (ev_var rfl) ev_anil) (check_term_ok ty S))) (thn_n <| ev_seq (ev_expr (ev_fn (ev_acons (ev_var rfl) ev_anil) (check_kind_ok hk S))) (thn_n <| exs_seq (exs_expr (exc_fn (ev_acons (ev_var rfl) ev_anil) (listed_exc hm S))))))⟩ take_self'
theorem ct_1 {x : P} (hx : x ∈ wrongL) (m : P) (S : Sto) : m_count_terms [.p x, .p m] S = .exc "InvalidKind" (some (["given"], [x])) S := by
  unfold m_count_terms b_count_terms
  exact ex_mkF rfl rfl ⟨_, exs_seq (exs_expr (exc_fn (ev_acons (ev_var rfl) ev_anil) (wrong_exc hx S)))⟩ take_self'
theorem ct_2 {k : List Nat} (hk : k ∈ KW) {m : P} (hm : m ∈ farL) (S : Sto) : m_count_terms [.p (.str k), .p m] S = .exc "InvalidNumber" (some (["given"], [m])) S := by
  unfold m_count_terms b_count_terms
  exact ex_mkF rfl rfl ⟨_, ev_seq (ev_expr (ev_fn (ev_acons (ev_var rfl) ev_anil) (check_kind_ok hk S))) (thn_n <| exs_seq (ev_sif (ev_tnot (ev_tval (ev_fn (ev_acons (ev_var rfl) (ev_acons ev_c (ev_acons (show eCall pLen _ _ S = .ok (.p (.int 3)) S from rfl) ev_anil))) (far_no hm _))) rfl) (ifK_t (exs_raise (ev_acons (ev_var rfl) ev_anil) fr_p))))⟩ take_self'
def smeB (x : P) : Bool := x.sameE x 11
theorem wr_same {x : P} (hx : x ∈ wrongL) : x.sameE x 11 = true := List.all_eq_true.mp (show wrongL.all smeB = true by decide) x hx
theorem odd_same {x : P} (hx : x ∈ oddL37) : x.sameE x 11 = true := List.all_eq_true.mp (show oddL37.all smeB = true by decide) x hx
theorem many_same {x : P} (hx : x ∈ manyL) : x.sameE x 11 = true := List.all_eq_true.mp (show manyL.all smeB = true by decide) x hx
theorem far_same {x : P} (hx : x ∈ farL) : x.sameE x 11 = true := List.all_eq_true.mp (show farL.all smeB = true by decide) x hx
theorem sm_cons {x : P} {xs : List P} {n : Nat} (h : x.sameE x n = true) (h2 : sameL xs xs n = true) : sameL (x :: xs) (x :: xs) n = true := by
  show (x.sameE x n && sameL xs xs n) = true
  rw [h, h2]
  rfl
theorem sm_tg {nm : List Nat} {z : P} (h : z.sameE z 11 = true) : (tgP nm z).sameE (tgP nm z) 12 = true := by
  show ((P.str nm).sameE (.str nm) 11 && (z.sameE z 11 && true)) = true
  rw [h]
  show ((nm == nm) && (true && true)) = true
  simp
theorem ne_same {xs : List P} (h : sameL xs xs 12 = true) : pNeX (.lst xs) (.lst xs) = some (.bl false) := by
  show (if sameL xs xs 12 = true then some (P.bl false) else _) = _
  rw [if_pos h]
theorem eq_same {xs : List P} (h : sameL xs xs 12 = true) : pEqX (.lst xs) (.lst xs) = some (.bl true) := by
  show (if sameL xs xs 12 = true then some (P.bl true) else _) = _
  rw [if_pos h]
abbrev enR37 (k : Nat) (a1 a2 a3 a4 a5 a6 a7 : Option Vl) : En := [some (.c k), a1, a2, a3, a4, a5, a6, a7]
theorem lam_at {T S S' : Sto} {k : Nat} (hT : T = Mir.tabS lams) (hk : k = T.length) (hS : S.length = T.length + 1) (hp : S.take T.length = T) (u : Jx k S S') : S'[0]? = some LAM ∧ S'[1]? = some LAM2 := by
  have key : ∀ i c, i < T.length → T[i]? = some c → S'[i]? = some c := fun i c hi hc => by
    have h1 : S'[i]? = S[i]? := u.oth i (by omega)
    have h2 : (S.take T.length)[i]? = some c := by rw [hp]; exact hc
    rw [List.getElem?_take_of_lt hi] at h2
    rw [h1, h2]
  exact ⟨key 0 _ (by rw [hT]; decide) (by rw [hT]; rfl), key 1 _ (by rw [hT]; decide) (by rw [hT]; rfl)⟩
theorem right_ok {T : Sto} (hT : T = Mir.tabS lams) {S : Sto} {k : Nat} (hu : Jar S k) (hk : k = T.length) (hS : S.length = T.length + 1) (hp : S.take T.length = T) : ∃ S', m__law_right [.c k] S = .ok (.p (.bl true)) S' ∧ Jx k S S' := by
  obtain ⟨odd, S1, e1, ho, u1⟩ := take_ok (xs := oddL37) hu (by decide) (by decide)
  obtain ⟨wr, S2, e2, hw, u2⟩ := take_ok (xs := wrongL) u1.jar (by decide) (by decide)
  obtain ⟨t, S3, e3, tok, tdep, u3⟩ := lterm_ok (ls := [120, 121]) (by simp) (by decide) 3 7 (by decide) (by decide) 2 u2.jar
  have tl : t.txt.length ≤ 300 := by
    have := txt_len t
    have h2 : 2 ^ t.dep ≤ 2 ^ 3 := Nat.pow_le_pow_right (by decide) tdep
    have h3 : 2 ^ 3 = 8 := rfl
    omega
  have tm := text_term xy_ltr tok tl
  obtain ⟨kx, S4, e4, hkx, u4⟩ := take_kind u3.jar (ρ := enR37 k (some (.p odd)) (some (.p wr)) none none none none none) rfl
  obtain ⟨kd, hkd, rfl⟩ : ∃ kd, kd ∈ KW ∧ kx = .str kd := by
    have : kx ∈ KW.map P.str := hkx
    obtain ⟨kd, h1, h2⟩ := List.mem_map.mp this
    exact ⟨kd, h1, h2.symm⟩
  obtain ⟨many, S5, e5, hm, u5⟩ := take_ok (xs := manyL) u4.jar (by decide) (by decide)
  have u15 := (((u1.trans u2).trans u3).trans u4).trans u5
  obtain ⟨l0, l1⟩ := lam_at hT hk hS hp u15
  have lA : ∀ c : List Cell, (S5 ++ c)[0]? = some LAM := fun c => by
    rw [List.getElem?_append_left (by rw [u15.len, hS]; omega)]
    exact l0
  have lB : ∀ c : List Cell, (S5 ++ c)[1]? = some LAM2 := fun c => by
    have := (List.getElem?_eq_some_iff.mp l1).1
    rw [List.getElem?_append_left this]
    exact l1
  -- the far one is drawn behind the list that was told
  obtain ⟨c0, hc0⟩ : ∃ c0 : Cell, c0 = .lst [tgP nNT odd, tgP nNT odd, tgP nIK wr, tgP nIN many] := ⟨_, rfl⟩
  have jA : Jar (S5 ++ [c0]) k := by
    obtain ⟨a, b, c, z, zz⟩ := u15.jar
    exact ⟨a, b, c, by rw [List.getElem?_append_left (by rw [u15.len, hS]; omega)]; exact z, zz⟩
  obtain ⟨far, S6, e6, hf, u6⟩ := take_ok (xs := farL) jA (by decide) (by decide)
  have l6 : S6[0]? = some LAM := by
    rw [u6.oth 0 (by rw [hk, hT]; decide)]
    exact lA _
  have l6A : ∀ c : List Cell, (S6 ++ c)[0]? = some LAM := fun c => by
    have := (List.getElem?_eq_some_iff.mp l6).1
    rw [List.getElem?_append_left this]
    exact l6
  have fin : Jx k S (S6.take S.length) := by
    have h5 : S5.length = S.length := u15.len
    have h6 : S6.length = S.length + 1 := by rw [u6.len, List.length_append, h5]; rfl
    refine ⟨by rw [List.length_take]; omega, ?_, fun j hj => ?_⟩
    · obtain ⟨a, b, c, z, zz⟩ := u6.jar
      exact ⟨a, b, c, by rw [List.getElem?_take_of_lt (by omega)]; exact z, zz⟩
    · by_cases hlt : j < S.length
      · rw [List.getElem?_take_of_lt hlt, u6.oth j hj, List.getElem?_append_left (by omega), u15.oth j hj]
      · rw [List.getElem?_eq_none (by rw [List.length_take]; omega), List.getElem?_eq_none (by omega)]
  have go : ∃ v S', m__law_right [.c k] S = .ok v S' ∧ v = .p (.bl true) ∧ S' = S6.take S.length := by
    unfold m__law_right b__law_right
    refine ws_mkF rfl rfl ?_
    refine ws_seq (ρ1 := enR37 k (some (.p odd)) none none none none none none) (S1 := S1) (ev_asg (ev_fn (ev_acons (ev_var rfl) (ev_acons (show eLst _ _ S = .ok (.p (.lst oddL37)) S from rfl) ev_anil)) e1) (ev_gnm rfl)) ?_
    refine ws_seq (ρ1 := enR37 k (some (.p odd)) (some (.p wr)) none none none none none) (S1 := S2) (ev_asg (ev_fn (ev_acons (ev_var rfl) (ev_acons (show eLst _ _ S1 = .ok (.p (.lst wrongL)) S1 from rfl) ev_anil)) e2) (ev_gnm rfl)) ?_
    refine ws_seq (ρ1 := enR37 k (some (.p odd)) (some (.p wr)) none none none (some (.p (trmP t.txt))) (some (.p (.str kd)))) (S1 := S4) (ev_parG (ev_acons (ev_make (ev_acons (ev_fn (ev_acons (ev_var rfl) (ev_acons (show eLst _ _ S2 = .ok (.p (lsP [120, 121])) S2 from rfl) (ev_acons ev_c (ev_acons ev_c ev_anil)))) e3) ev_anil) (tm S3)) (ev_acons e4 ev_anil)) rfl (by decide) (ev_gcn (ev_gnm rfl) (ev_gcn (ev_gnm rfl) ev_gnl))) ?_
    refine ws_seq (ρ1 := enR37 k (some (.p odd)) (some (.p wr)) (some (.p many)) none none (some (.p (trmP t.txt))) (some (.p (.str kd)))) (S1 := S5) (ev_asg (ev_fn (ev_acons (ev_var rfl) (ev_acons (show eLst _ _ S4 = .ok (.p (.lst manyL)) S4 from rfl) ev_anil)) e5) (ev_gnm rfl)) ?_
    refine ws_seq (ev_asg (ev_lstC (ev_acons (ev_lam l0 (caught_NT (exc_fn (ev_acons (ev_var rfl) (ev_acons (ev_var rfl) (ev_acons (ev_var rfl) (ev_acons (ev_var rfl) ev_anil)))) (lp_1 (odd_no ho) odd wr many _)))) ev_anil) (frzs_s fr_p frzs_z) (by simp)) (ev_gnm rfl)) ?_
    refine ws_seq (ev_expr (ev_mut (ev_var rfl) (isL_lst cell0) (ev_acons (ev_lam (lA _) (caught_NT (exc_fn (ev_acons (ev_var rfl) (ev_acons (ev_var rfl) (ev_acons (ev_var rfl) (ev_acons (ev_var rfl) ev_anil)))) (lp_2 t.txt (odd_no ho) wr many _)))) ev_anil) (app1 (by simp)))) ?_
    refine ws_seq (ev_expr (ev_mut (ev_var rfl) (isL_lst cell0) (ev_acons (ev_lam (lA _) (caught_IK (exc_fn (ev_acons (ev_var rfl) (ev_acons (ev_var rfl) (ev_acons (ev_var rfl) (ev_acons (ev_var rfl) ev_anil)))) (lp_3 t.txt t.txt hw many _)))) ev_anil) (app1 (by simp)))) ?_
    refine ws_seq (ev_expr (ev_mut (ev_var rfl) (isL_lst cell0) (ev_acons (ev_lam (lA _) (caught_IN (exc_fnK ev_anil (ev_acons (ev_var rfl) (ev_acons (ev_var rfl) (ev_acons (ev_var rfl) (ev_acons (ev_var rfl) ev_anil)))) rfl rfl rfl (lp_4 t.txt t.txt hkd hm _)))) ev_anil) (app1 (by simp)))) ?_
    have n1 : pNeX (.lst [tgP nNT odd, tgP nNT odd, tgP nIK wr, tgP nIN many]) (.lst [tgP nNT odd, tgP nNT odd, tgP nIK wr, tgP nIN many]) = some (.bl false) := ne_same (sm_cons (sm_tg (odd_same ho)) (sm_cons (sm_tg (odd_same ho)) (sm_cons (sm_tg (wr_same hw)) (sm_cons (sm_tg (many_same hm)) rfl))))
    refine ws_seq (ev_sif (ev_tval (ev_bin (ev_var rfl) (show _ = Res.ok (Vl.p (.lst [tgP nNT odd, tgP nNT odd, tgP nIK wr, tgP nIN many])) (S5 ++ [_]) from rfl) (rd_lst cell0) (rd_p _ _) n1)) (ifK_f ev_pass)) ?_
    have n2 : pNeX (.lst [tgP nIN many, tgP nIN many, tgP nIN many]) (.lst [tgP nIN many, tgP nIN many, tgP nIN many]) = some (.bl false) := ne_same (sm_cons (sm_tg (many_same hm)) (sm_cons (sm_tg (many_same hm)) (sm_cons (sm_tg (many_same hm)) rfl)))
    have n3 : pNeX (.lst [tgP nIK wr, tgP nIK wr, tgP nIK wr]) (.lst [tgP nIK wr, tgP nIK wr, tgP nIK wr]) = some (.bl false) := ne_same (sm_cons (sm_tg (wr_same hw)) (sm_cons (sm_tg (wr_same hw)) (sm_cons (sm_tg (wr_same hw)) rfl)))
    refine ws_seq (ev_sif (ev_tval (ev_bin (ev_fn (ev_acons (ev_var rfl) (ev_acons (ev_var rfl) ev_anil)) (listed_many hm (lB _))) (show _ = Res.ok (Vl.p (.lst [tgP nIN many, tgP nIN many, tgP nIN many])) (S5 ++ [_]) from rfl) (rd_p _ _) (rd_p _ _) n2)) (ifK_f ev_pass)) ?_
    refine ws_seq (ev_sif (ev_tval (ev_bin (ev_fn (ev_acons ev_c (ev_acons (ev_var rfl) ev_anil)) (listed_kind hw (lB _))) (show _ = Res.ok (Vl.p (.lst [tgP nIK wr, tgP nIK wr, tgP nIK wr])) (S5 ++ [_]) from rfl) (rd_p _ _) (rd_p _ _) n3)) (ifK_f ev_pass)) ?_
    subst hc0
    refine ws_seq (ev_asg (S1 := S6) (ev_fn (ev_acons (ev_var rfl) (ev_acons (show eLst _ _ _ = .ok (.p (.lst farL)) _ from rfl) ev_anil)) e6) (ev_gnm rfl)) ?_
    refine ws_seq (ev_asg (ev_lstC (ev_acons (ev_lam l6 (caught_IK (exc_fn (ev_acons (ev_var rfl) (ev_acons (ev_var rfl) ev_anil)) (ct_1 hw far _)))) ev_anil) (frzs_s fr_p frzs_z) (by simp)) (ev_gnm rfl)) ?_
    refine ws_seq (ev_expr (ev_mut (ev_var rfl) (isL_lst cell0) (ev_acons (ev_lam (l6A _) (caught_IN (exc_fnK ev_anil (ev_acons (ev_var rfl) (ev_acons (ev_var rfl) ev_anil)) rfl rfl rfl (ct_2 hkd hf _)))) ev_anil) (app1 (by simp)))) ?_
    have n4 : pEqX (.lst [tgP nIK wr, tgP nIN far]) (.lst [tgP nIK wr, tgP nIN far]) = some (.bl true) := eq_same (sm_cons (sm_tg (wr_same hw)) (sm_cons (sm_tg (far_same hf)) rfl))
    refine ws_of (ev_ret (ev_bin (ev_var rfl) (show _ = Res.ok (Vl.p (.lst [tgP nIK wr, tgP nIN far])) (S6 ++ [_]) from rfl) (rd_lst cell0) (rd_p _ _) n4)) ⟨.p (.bl true), S6.take S.length, ?_, rfl, rfl⟩
    have h6 : S.length ≤ S6.length := by rw [u6.len, List.length_append, u15.len]; omega
    rw [endF_p, List.take_append_of_le_length h6]
  obtain ⟨v, S', e, rfl, rfl⟩ := go
  exact ⟨_, e, fin⟩
end Law

namespace Law
open PySem L2 Mir Pl
theorem all_ok (ns : List Int) (hn : ns.length ≤ 63) : ∃ S', m_law [.p (.scr (ns.map Mir.P.int))] (Mir.tabS lams) = .ok (.p (.bl true)) S' := by
  unfold m_law b_law
  exact endJT (K := 5) (T := Mir.tabS lams) (by decide) (by decide) (fun S k hu hk hl hT => right_ok rfl hu hk hl hT) (fun t => jar_okc hn _) rfl
end Law
open PySem PySem.W PyProof.Rows
theorem PySem.Challenge.cw_closedinner_k37_least_and_lists_refused_holds : PySem.Challenge.rw_closedinner_k37_least_and_lists_refused.Holds := by
  exact law_of Law.all_ok

