import PyProof.Rows.All
import Wide.All
import OpenK.AllK
import Wide.FinOn
import KE.KStateDown
import KE.KeyNested
import KE.KDictCopyH
import HandS.ForMost
import HandS.Exc
import HandS.TryOnly
import HandS.ExcOwn
import HandS.ExcInit
import HandS.Lambda
import HandS.WordsExc
import HandS.Evl
import HandS.Defaults
import HandS.Head0
import HandS.Head1
import HandS.Head2
import HandS.HeadEnd
import HandS.HeadHook1
import HandS.HeadHook2
import HandS.HeadHook3
import HandS.HeadHook4
import HandS.RaiseMore
import HandS.WideBits
import HandS.SetFor
import HandS.ReplaceList
import HandS.CallSlots
import HandS.Property
import HandS.Ends
import PyProof.ReprRoads
import HandS.Dict
import HandS.Style
import HandS.Deep
import PyProof.InstNe
import HandS.ExcField
import HandS.ExcIs
import HandS.TryMany
import KE.KExcInit
import PyProof.ExcBaseAll.LookupError
import PyProof.ExcBaseAll.ArithmeticError
import PyProof.ExcBaseAll.ValueError
import HandS.TupAny
import HandS.SortInts
import HandS.IsInst
import HandS.Conv
import HandS.FStr
import HandS.Star
import KE.GoesMore
import HandS.Strs
import HandS.Replace
import KE.GoesZip
import PyProof.WalkInts
import HandS.NoneIn
import KE.SortData
import KE.KCallOwn
import KE.KIsAll
import HandS.SetKeys
import HandS.HotCalls
import PyProof.StrOps2
import HandS.DictSubView
import PyProof.SeqIndex
import PyProof.InstEq
import HandS.Records
import HandS.ReplaceLit
import PyProof.ToksMono
import PyProof.NsMap
import HandS.DictComp
import KE.KEqNest
import HandS.TupMul
import KE.KOpsOwn
import HandS.Iter
import KE.KDictItemsList
import HandS.More
import KE.KDictKeyed
import HandS.DictEq
import HandS.StrSplit
import PyProof.CompFree
import HandS.Flow
import KE.IntBitsLaws
import KE.OsArith
import KE.BitLaws
import PySem.Challenge.RW_closedinner_k01_errors_and_limits
set_option Elab.async false
set_option linter.all false
set_option maxRecDepth 100000
set_option maxHeartbeats 0

namespace Mir
open PySem L2

inductive P where
  | non | bl (b : Bool) | int (i : Int) | str (x : List Nat)
  | tup (xs : List P) | lst (xs : List P)
  | dct (ks vs : List P)
  | dcl (ks vs : List P)
  | obj (c : Str) (ns : List Str) (xs : List P)
  | ty (n : String) | glo (x : Str)
  | raw (a : Addr)
  | err (c : Str) (ns : List Str) (xs : List P)
  | rwp (y z : List Nat)
  | scr (xs : List P)
inductive Vl where
  | p (x : P) | c (k : Nat)
def lamC (K : PySem.W.Frag) (x : Str) : Addr := match K.lookup (He.ga K x) with
  | some ⟨_, _, .func fd, _⟩ => (match fd.code with
    | .ref c => c
    | _ => 0)
  | _ => 0
def lamT (K : PySem.W.Frag) (x : Str) : Addr := He.tabOf K (lamC K x)
inductive Cell where
  | lst (xs : List P)
  | lsv (xs : List Vl)
  | dct (ks vs : List P)
  | ins (c : Str) (ns : List Str) (xs : List Vl)
  | fz (x : P) | res
  | tup (xs : List P)
  | dcT (ks : List (List (Int ⊕ List Nat))) (xs : List P)
  | dcN (η : NestedKey → Int) (ks xs : List P)
  | tbl (x q : Str)
  | dvs (xs : List P)
  | tblC (x q : Str) (c : Addr)
  | tpz (xs : List P)
  | adr (j : Nat) (a : Addr)
abbrev Sto := List Cell
abbrev XD := Option (List Str × List P)
inductive Res (A : Type) where
  | ok (a : A) (S : Sto)
  | exc (c : Str) (d : XD) (S : Sto)
  | bad
def Res.bind {A B : Type} (r : Res A) (f : A → Sto → Res B) : Res B := match r with
  | .ok a S => f a S
  | .exc c d S => .exc c d S
  | .bad => .bad
abbrev En := List (Option Vl)
def strOf (x : List Nat) : Str := ⟨x.toArray⟩
def kk : Int ⊕ List Nat → Key
  | .inl i => .inl i
  | .inr x => .inr (strOf x)

mutual
def nkOf : P → Option NestedKey
  | .non => some .none
  | .bl b => some (.num (if b then 1 else 0))
  | .int i => some (.num i)
  | .str x => some (.text (strOf x))
  | .tup xs => (match nkL xs with
    | some ks => some (.tup ks)
    | none => none)
  | _ => none
def nkL : List P → Option (List NestedKey)
  | [] => some []
  | x :: xs => (match nkOf x, nkL xs with
    | some k, some ks => some (k :: ks)
    | _, _ => none)
end
def DNo (η : NestedKey → Int) (a : Addr) (es : List (NestedKey × Addr × V)) : HO := .ext fun h => es.length ≤ sizeLine ∧ (a == sysModules) = false ∧ ∃ xs : List (NestedKey × Addr × Value),
  Paired (fun (p : NestedKey × Addr × V) (q : NestedKey × Addr × Value) => p.1 = q.1 ∧ p.2.1 = q.2.1 ∧ RelV p.2.2 q.2.2) es xs ∧
  ∃ ds ep, h.DictRaw a ds ep ∧ ds.toList = xs.map (fun x => (⟨η x.1, .ref x.2.1, x.2.2⟩ : DictEntry)) ∧ (xs.map (·.1)).Nodup ∧ ∀ x ∈ xs, x.1.depth ≤ 8
def RawT (K : PySem.W.Frag) (H : Hp) (a : Addr) (y z : Str) (t u : Tok) : Prop :=
  (∃ (o : Obj) (n : Nat), (H a = some (.frz o (.tup [.str y, .str z])) ∨ K.lookup a = some o) ∧ o.cls = .type "tuple" ∧ o.data = .seq #[.str y t, .str z u] n) ∧ t ≠ 0 ∧ u ≠ 0 ∧ t ≠ u ∧ (y == z) = false
mutual
def Rep (K : PySem.W.Frag) (F : Hp) : P → V → Prop
  | .non, v => v = .non
  | .bl b, v => v = .bl b
  | .int i, v => v = .int i
  | .str x, v => v = .str (strOf x)
  | .tup xs, v => ∃ a vs, v = .ref a ∧ SqT K F a vs ∧ RepL K F xs vs
  | .lst xs, v => ∃ a vs, v = .ref a ∧ F a = some (.lst vs) ∧ RepL K F xs vs
  | .scr xs, v => ∃ a vs, v = .ref a ∧ SqL K F a vs ∧ RepL K F xs vs
  | .dct ks xs, v => ∃ a kvs, v = .ref a ∧ F a = some (.dK kvs) ∧ RepL K F ks (kvs.map fun q => kV q.1) ∧ RepL K F xs (kvs.map (·.2))
  | .dcl ks xs, v => ∃ a kvs, v = .ref a ∧ (∃ o, F a = some (.frz o (.dK kvs))) ∧ RepL K F ks (kvs.map fun q => kV q.1) ∧ RepL K F xs (kvs.map (·.2))
  | .obj c ns xs, v => ∃ a dx gs, v = .ref a ∧ F a = some (.ins (He.ga K c) dx gs) ∧ gs.map (·.1) = ns ∧ RepL K F xs (gs.map (·.2))
  | .ty n, v => v = .ty n
  | .glo x, v => v = .ref (He.ga K x)
  | .raw a, v => v = .ref a
  | .err c ns xs, v => ∃ a gs, v = .ref a ∧ ((F a = some (exo a (He.ga K c) none) ∧ gs = []) ∨ ∃ dx, F a = some (exo a (He.ga K c) (some dx)) ∧ F dx = some (exd dx gs)) ∧ gs.map (·.1) = ns ∧ RepL K F xs (gs.map (·.2))
  | .rwp y z, v => ∃ a t u, v = .ref a ∧ RawT K F a (strOf y) (strOf z) t u
def RepL (K : PySem.W.Frag) (F : Hp) : List P → List V → Prop
  | [], vs => vs = []
  | x :: xs, vs => ∃ v r, vs = v :: r ∧ Rep K F x v ∧ RepL K F xs r
end
section
variable {K : PySem.W.Frag} {F F' : Hp}
theorem sqt_mono {a : Addr} {vs : List V} (e : Same F F') (h : SqT K F a vs) : SqT K F' a vs := Evl.ex_t e h
theorem sql_mono {a : Addr} {vs : List V} (e : Same F F') (h : SqL K F a vs) : SqL K F' a vs := Evl.ex_l e h
mutual
theorem Rep.mono (e : Same F F') : ∀ {x : P} {v : V}, Rep K F x v → Rep K F' x v
  | .non, _, h => h
  | .bl _, _, h => h
  | .int _, _, h => h
  | .str _, _, h => h
  | .tup xs, v, h => by
    obtain ⟨a, vs, e1, h1, h2⟩ := h
    exact ⟨a, vs, e1, sqt_mono e h1, RepL.mono e h2⟩
  | .lst xs, v, h => by
    obtain ⟨a, vs, e1, h1, h2⟩ := h
    exact ⟨a, vs, e1, e _ _ h1, RepL.mono e h2⟩
  | .scr xs, v, h => by
    obtain ⟨a, vs, e1, h1, h2⟩ := h
    exact ⟨a, vs, e1, sql_mono e h1, RepL.mono e h2⟩
  | .dct ks xs, v, h => by
    obtain ⟨a, kvs, e1, h1, h2, h3⟩ := h
    exact ⟨a, kvs, e1, e _ _ h1, RepL.mono e h2, RepL.mono e h3⟩
  | .dcl ks xs, v, h => by
    obtain ⟨a, kvs, e1, ⟨o, h1⟩, h2, h3⟩ := h
    exact ⟨a, kvs, e1, ⟨o, e _ _ h1⟩, RepL.mono e h2, RepL.mono e h3⟩
  | .obj c ns xs, v, h => by
    obtain ⟨a, dx, gs, e1, h1, h2, h3⟩ := h
    exact ⟨a, dx, gs, e1, e _ _ h1, h2, RepL.mono e h3⟩
  | .ty _, _, h => h
  | .glo _, _, h => h
  | .raw _, _, h => h
  | .err c ns xs, v, h => by
    obtain ⟨a, gs, e1, h1, h2, h3⟩ := h
    exact ⟨a, gs, e1, h1.imp (fun q => ⟨e _ _ q.1, q.2⟩) (fun ⟨dx, q1, q2⟩ => ⟨dx, e _ _ q1, e _ _ q2⟩), h2, RepL.mono e h3⟩
  | .rwp y z, v, h => by
    obtain ⟨a, t, u, e1, ⟨o, n, h1, h2, h3⟩, h4⟩ := h
    exact ⟨a, t, u, e1, ⟨o, n, h1.imp (e _ _) id, h2, h3⟩, h4⟩
theorem RepL.mono (e : Same F F') : ∀ {xs : List P} {vs : List V}, RepL K F xs vs → RepL K F' xs vs
  | [], _, h => h
  | x :: xs, vs, h => by
    obtain ⟨v, r, e1, h1, h2⟩ := h
    exact ⟨v, r, e1, Rep.mono e h1, RepL.mono e h2⟩
end
theorem RepL.length : ∀ {xs : List P} {vs : List V}, RepL K F xs vs → vs.length = xs.length
  | [], _, h => by
    have h' : _ = _ := h
    rw [h']
    rfl
  | x :: xs, vs, h => by
    obtain ⟨v, r, e1, h1, h2⟩ := h
    rw [e1, List.length_cons, List.length_cons, RepL.length h2]
theorem RepL.nil : RepL K F [] [] := rfl
theorem RepL.cons {x : P} {xs : List P} {v : V} {vs : List V} (h : Rep K F x v) (t : RepL K F xs vs) : RepL K F (x :: xs) (v :: vs) := ⟨v, vs, rfl, h, t⟩
theorem RepL.append : ∀ {xs ys : List P} {vs ws : List V}, RepL K F xs vs → RepL K F ys ws → RepL K F (xs ++ ys) (vs ++ ws)
  | [], _, _, _, h, t => by
    have h' : _ = _ := h
    subst h'
    exact t
  | x :: xs, ys, vs, ws, h, t => by
    obtain ⟨v, r, e1, h1, h2⟩ := h
    subst e1
    exact ⟨v, r ++ ws, rfl, h1, RepL.append h2 t⟩
theorem RepL.take : ∀ {xs : List P} {vs : List V} (n : Nat), RepL K F xs vs → RepL K F (xs.take n) (vs.take n)
  | [], vs, n, h => by
    have h' : _ = _ := h
    subst h'
    simp only [List.take_nil]
    exact .nil
  | x :: xs, vs, 0, h => by
    simp only [List.take_zero]
    exact .nil
  | x :: xs, vs, n + 1, h => by
    obtain ⟨v, r, e1, h1, h2⟩ := h
    subst e1
    exact ⟨v, r.take n, rfl, h1, RepL.take n h2⟩
theorem RepL.reverse {xs : List P} {vs : List V} (h : RepL K F xs vs) : RepL K F xs.reverse vs.reverse := by
  induction xs generalizing vs with
  | nil =>
    have h' : _ = _ := h
    subst h'
    exact .nil
  | cons x xs ih =>
    obtain ⟨v, r, e1, h1, h2⟩ := h
    subst e1
    simp only [List.reverse_cons]
    exact (ih h2).append (.cons h1 .nil)
theorem RepL.set : ∀ {xs : List P} {vs : List V} {x : P} {v : V} (i : Nat), RepL K F xs vs → Rep K F x v → RepL K F (xs.set i x) (vs.set i v)
  | [], _, _, _, _, h, _ => by
    have h' : _ = _ := h
    subst h'
    exact .nil
  | y :: xs, vs, x, v, 0, h, hx => by
    obtain ⟨u, r, e1, h1, h2⟩ := h
    subst e1
    exact ⟨v, r, rfl, hx, h2⟩
  | y :: xs, vs, x, v, i + 1, h, hx => by
    obtain ⟨u, r, e1, h1, h2⟩ := h
    subst e1
    exact ⟨u, r.set i v, rfl, h1, RepL.set i h2 hx⟩
theorem RepL.replicate {x : P} {v : V} (h : Rep K F x v) : ∀ n, RepL K F (List.replicate n x) (List.replicate n v)
  | 0 => .nil
  | n + 1 => ⟨v, _, rfl, h, RepL.replicate h n⟩
end

abbrev Io := List (Option Addr)
def RepV (K : PySem.W.Frag) (io : Io) (F : Hp) : Vl → V → Prop
  | .p x, v => Rep K F x v
  | .c k, v => ∃ a, io[k]? = some (some a) ∧ v = .ref a
def RepVs (K : PySem.W.Frag) (io : Io) (F : Hp) : List Vl → List V → Prop
  | [], vs => vs = []
  | x :: xs, vs => ∃ v r, vs = v :: r ∧ RepV K io F x v ∧ RepVs K io F xs r
def CellAt (K : PySem.W.Frag) (io : Io) (F H : Hp) (k : Nat) : Cell → Prop
  | .lst xs => ∃ a vs, io[k]? = some (some a) ∧ F a = none ∧ H a = some (.lst vs) ∧ RepL K F xs vs
  | .lsv xs => ∃ a vs, io[k]? = some (some a) ∧ F a = none ∧ H a = some (.lst vs) ∧ RepVs K io F xs vs ∧ ∀ j, Vl.c j ∈ xs → j < k
  | .dct ks xs => ∃ a kvs, io[k]? = some (some a) ∧ F a = none ∧ H a = some (.dK kvs) ∧ RepL K F ks (kvs.map fun q => kV q.1) ∧ RepL K F xs (kvs.map (·.2))
  | .ins c ns xs => ∃ a dx gs, io[k]? = some (some a) ∧ F a = none ∧ H a = some (.ins (He.ga K c) dx gs) ∧ gs.map (·.1) = ns ∧ RepVs K io F xs (gs.map (·.2)) ∧ ∀ j, Vl.c j ∈ xs → j < k
  | .fz x => ∃ a, io[k]? = some (some a) ∧ Rep K F x (.ref a)
  | .res => io[k]? = some none
  | .tup xs => ∃ a vs, io[k]? = some (some a) ∧ F a = some (.tup vs) ∧ RepL K F xs vs
  | .tpz xs => ∃ a vs o, io[k]? = some (some a) ∧ F a = some (.frz o (.tup vs)) ∧ o.cls = .type "tuple" ∧ o.dict = none ∧ RepL K F xs vs
  | .dcT ks xs => ∃ a ws, io[k]? = some (some a) ∧ F a = none ∧ H a = some (.dT ((ks.map (List.map kk)).zip ws)) ∧ ks.length = ws.length ∧ RepL K F xs ws
  | .dcN η ks xs => ∃ a es, io[k]? = some (some a) ∧ F a = none ∧ H a = some (DNo η a es) ∧ nkL ks = some (es.map (·.1)) ∧ RepL K F ks (es.map fun e => V.ref e.2.1) ∧ RepL K F xs (es.map (·.2.2))
  | .tbl x q => io[k]? = some (some (lamT K x)) ∧ F (lamT K x) = none ∧ ∃ ps : Array Value, H (lamT K x) = some (.tbl ps) ∧ TriplesOk ps.toList ∧ ∀ (pos : Pos) (cv : Value), codeAmong pos ps.toList = some cv → ∃ c, cv = .ref c ∧ F c = some (LamX.CodeO c q)
  | .dvs xs => ∃ a o η es, io[k]? = some (some a) ∧ F a = some (.frz o (DNo η a es)) ∧ RepL K F xs (es.map (·.2.2))
  | .adr j a => io[k]? = some none ∧ io[j]? = some (some a) ∧ j < k
  | .tblC x q c => (io[k]? = some (some (lamT K x)) ∧ F (lamT K x) = none ∧ ∃ ps : Array Value, H (lamT K x) = some (.tbl ps) ∧ TriplesOk ps.toList ∧ ∀ (pos : Pos) (cv : Value), codeAmong pos ps.toList = some cv → ∃ c, cv = .ref c ∧ F c = some (LamX.CodeO c q)) ∧ F c = some (LamX.CodeO c q)
structure Sta (K : PySem.W.Frag) (io : Io) (F : Hp) (S : Sto) (H : Hp) : Prop where
  len : io.length = S.length
  inj : ∀ (j k : Nat) (a : Addr), io[j]? = some (some a) → io[k]? = some (some a) → j = k
  sub : Same F H
  trk : ∀ (k : Nat) (a : Addr), io[k]? = some (some a) → H a ≠ none
  cel : ∀ (k : Nat) (c : Cell), S[k]? = some c → CellAt K io F H k c
structure Nxt (io : Io) (F H : Hp) (io' : Io) (F' H' : Hp) : Prop where
  han : ∀ (k : Nat) (a : Addr), io[k]? = some (some a) → io'[k]? = some (some a)
  fr : Same F F'
  out : ∀ (a : Addr) (o : HO), H a = some o → (∀ k : Nat, io[k]? ≠ some (some a)) → H' a = some o
  new : ∀ (k : Nat) (a : Addr), io'[k]? = some (some a) → io[k]? = some (some a) ∨ H a = none
  stay : ∀ a : Addr, H' a = none → H a = none
  nf : ∀ a : Addr, F' a ≠ none → F a ≠ none ∨ H a = none ∨ ∃ k : Nat, io[k]? = some (some a)
section
variable {K : PySem.W.Frag} {io io1 io2 : Io} {F F1 F2 H H1 H2 : Hp} {S : Sto}
theorem Nxt.refl : Nxt io F H io F H := ⟨fun _ _ h => h, fun _ _ h => h, fun _ _ h _ => h, fun _ _ h => .inl h, fun _ h => h, fun _ h => .inl h⟩
theorem Nxt.trans (a : Nxt io F H io1 F1 H1) (b : Nxt io1 F1 H1 io2 F2 H2) : Nxt io F H io2 F2 H2 where
  han := fun k x h => b.han k x (a.han k x h)
  fr := a.fr.trans b.fr
  out := fun x o h n => b.out x o (a.out x o h n) fun k e => by
    rcases a.new k x e with q | q
    · exact n k q
    · rw [h] at q; cases q
  new := fun k x h => by
    rcases b.new k x h with q | q
    · exact a.new k x q
    · exact .inr (a.stay x q)
  stay := fun x h => a.stay x (b.stay x h)
  nf := fun x h => by
    rcases b.nf x h with q | q | ⟨k, q⟩
    · exact a.nf x q
    · exact .inr (.inl (a.stay x q))
    · rcases a.new k x q with z | z
      · exact .inr (.inr ⟨k, z⟩)
      · exact .inr (.inl z)
theorem RepV.mono {io' : Io} {F' : Hp} (hi : ∀ (k : Nat) (a : Addr), io[k]? = some (some a) → io'[k]? = some (some a)) (e : Same F F') : ∀ {d : Vl} {v : V}, RepV K io F d v → RepV K io' F' d v
  | .p _, _, h => Rep.mono e h
  | .c k, _, ⟨a, h, r⟩ => ⟨a, hi k a h, r⟩
theorem RepVs.mono {io' : Io} {F' : Hp} (hi : ∀ (k : Nat) (a : Addr), io[k]? = some (some a) → io'[k]? = some (some a)) (e : Same F F') : ∀ {ds : List Vl} {vs : List V}, RepVs K io F ds vs → RepVs K io' F' ds vs
  | [], _, h => h
  | d :: ds, _, ⟨v, r, e1, h1, h2⟩ => ⟨v, r, e1, RepV.mono hi e h1, RepVs.mono hi e h2⟩
theorem RepVs.length : ∀ {xs : List Vl} {vs : List V}, RepVs K io F xs vs → vs.length = xs.length
  | [], _, h => by
    have h' : _ = _ := h
    rw [h']
    rfl
  | x :: xs, vs, h => by
    obtain ⟨v, r, e1, h1, h2⟩ := h
    rw [e1, List.length_cons, List.length_cons, RepVs.length h2]
theorem RepVs.pure : ∀ {xs : List P} {vs : List V}, RepVs K io F (xs.map Vl.p) vs ↔ RepL K F xs vs
  | [], _ => Iff.rfl
  | x :: xs, vs => by
    constructor
    · rintro ⟨v, r, e1, h1, h2⟩
      exact ⟨v, r, e1, h1, RepVs.pure.mp h2⟩
    · rintro ⟨v, r, e1, h1, h2⟩
      exact ⟨v, r, e1, h1, RepVs.pure.mpr h2⟩

def rd (S : Sto) : Vl → Option P
  | .p x => some x
  | .c k => match S[k]? with
    | some (.lst xs) => some (.lst xs)
    | some (.dct ks xs) => some (.dct ks xs)
    | some (.fz x) => some x
    | some (.tup xs) => some (.tup xs)
    | some (.tpz xs) => some (.tup xs)
    | _ => none
def RepR (K : PySem.W.Frag) (F H : Hp) : P → V → Prop
  | .lst xs, v => ∃ a vs, v = .ref a ∧ H a = some (.lst vs) ∧ RepL K F xs vs
  | .dct ks xs, v => ∃ a kvs, v = .ref a ∧ H a = some (.dK kvs) ∧ RepL K F ks (kvs.map fun q => kV q.1) ∧ RepL K F xs (kvs.map (·.2))
  | x, v => Rep K F x v
theorem Rep.r (e : Same F H) {x : P} {v : V} (h : Rep K F x v) : RepR K F H x v := by
  cases x with
  | lst xs =>
    obtain ⟨a, vs, e1, h1, h2⟩ := h
    exact ⟨a, vs, e1, e _ _ h1, h2⟩
  | dct ks xs =>
    obtain ⟨a, kvs, e1, h1, h2, h3⟩ := h
    exact ⟨a, kvs, e1, e _ _ h1, h2, h3⟩
  | _ => exact h
theorem RepR.now (e : Same F H) {x : P} {v : V} (h : RepR K F H x v) : Rep K H x v := by
  cases x with
  | lst xs =>
    obtain ⟨a, vs, e1, h1, h2⟩ := h
    exact ⟨a, vs, e1, h1, RepL.mono e h2⟩
  | dct ks xs =>
    obtain ⟨a, kvs, e1, h1, h2, h3⟩ := h
    exact ⟨a, kvs, e1, h1, RepL.mono e h2, RepL.mono e h3⟩
  | non => exact h
  | bl _ => exact h
  | int _ => exact h
  | str _ => exact h
  | tup _ => exact Rep.mono e (x := .tup _) h
  | obj _ _ _ => exact Rep.mono e (x := .obj _ _ _) h
  | ty _ => exact h
  | glo _ => exact h
  | raw _ => exact h
  | err _ _ _ => exact Rep.mono e (x := .err _ _ _) h
  | rwp _ _ => exact Rep.mono e (x := .rwp _ _) h
  | dcl _ _ => exact Rep.mono e (x := .dcl _ _) h
  | scr _ => exact Rep.mono e (x := .scr _) h
theorem Sta.rd (st : Sta K io F S H) {d : Vl} {v : V} {x : P} (h : RepV K io F d v) (e : rd S d = some x) : RepR K F H x v := by
  cases d with
  | p y =>
    have e' : y = x := Option.some.inj e
    subst e'
    exact Rep.r st.sub h
  | c k =>
    obtain ⟨a, ha, rfl⟩ := h
    have e : (match S[k]? with
      | some (.lst xs) => some (P.lst xs)
      | some (.dct ks xs) => some (P.dct ks xs)
      | some (.fz x) => some x
      | some (.tup xs) => some (P.tup xs)
      | some (.tpz xs) => some (P.tup xs)
      | _ => none) = some x := e
    cases hk : S[k]? with
    | none => rw [hk] at e; cases e
    | some c =>
      rw [hk] at e
      cases c with
      | lst xs =>
        have e' : P.lst xs = x := Option.some.inj e
        subst e'
        obtain ⟨b, vs, hb, _, hH, hr⟩ := st.cel k _ hk
        rw [ha] at hb
        cases hb
        exact ⟨a, vs, rfl, hH, hr⟩
      | dct ks xs =>
        have e' : P.dct ks xs = x := Option.some.inj e
        subst e'
        obtain ⟨b, vs, hb, _, hH, hr, hr2⟩ := st.cel k _ hk
        rw [ha] at hb
        cases hb
        exact ⟨a, vs, rfl, hH, hr, hr2⟩
      | fz y =>
        have e' : y = x := Option.some.inj e
        subst e'
        obtain ⟨b, hb, hr⟩ := st.cel k _ hk
        rw [ha] at hb
        cases hb
        exact Rep.r st.sub hr
      | tup xs =>
        have e' : P.tup xs = x := Option.some.inj e
        subst e'
        obtain ⟨b, vs, hb, hF, hr⟩ := st.cel k _ hk
        rw [ha] at hb
        cases hb
        exact ⟨a, vs, rfl, SqT.of hF, hr⟩
      | tpz xs =>
        have e' : P.tup xs = x := Option.some.inj e
        subst e'
        obtain ⟨b, vs, o, hb, hF, _, _, hr⟩ := st.cel k _ hk
        rw [ha] at hb
        cases hb
        exact ⟨a, vs, rfl, .inl (.inr ⟨o, hF⟩), hr⟩
      | _ => cases e
theorem upd_same_of {p : Addr} {o : HO} (hp : H p = none) : Same H (upd H p o) := fun b u e => by
  rw [upd_ne (ne_of_none e hp)]
  exact e
theorem app_none {io T : Io} {k : Nat} (z : io[k]? = some none) : (io ++ T)[k]? = some none := by
  rw [List.getElem?_append_left (List.getElem?_eq_some_iff.mp z).1]
  exact z
theorem CellAt.mono {io' : Io} {F' : Hp} {k : Nat} {c : Cell} (hi : ∀ (k : Nat) (a : Addr), io[k]? = some (some a) → io'[k]? = some (some a)) (hF : Same F F')
    (hn : ∀ a, io[k]? = some (some a) → F a = none → F' a = none) (hH : ∀ a o, io[k]? = some (some a) → H a = some o → H1 a = some o) (h : CellAt K io F H k c) (hres : io[k]? = some none → io'[k]? = some none := by first | exact fun z => z | exact fun z => app_none z) : CellAt K io' F' H1 k c := by
  cases c with
  | lst xs =>
    obtain ⟨a, vs, h1, h2, h3, h4⟩ := h
    exact ⟨a, vs, hi _ _ h1, hn _ h1 h2, hH _ _ h1 h3, RepL.mono hF h4⟩
  | lsv ks =>
    obtain ⟨a, vs, h1, h2, h3, h4, h5⟩ := h
    exact ⟨a, vs, hi _ _ h1, hn _ h1 h2, hH _ _ h1 h3, RepVs.mono hi hF h4, h5⟩
  | dct ks xs =>
    obtain ⟨a, vs, h1, h2, h3, h4, h5⟩ := h
    exact ⟨a, vs, hi _ _ h1, hn _ h1 h2, hH _ _ h1 h3, RepL.mono hF h4, RepL.mono hF h5⟩
  | ins cc ns xs =>
    obtain ⟨a, dx, gs, h1, h2, h3, h4, h5, h6⟩ := h
    exact ⟨a, dx, gs, hi _ _ h1, hn _ h1 h2, hH _ _ h1 h3, h4, RepVs.mono hi hF h5, h6⟩
  | fz x =>
    obtain ⟨a, h1, h2⟩ := h
    exact ⟨a, hi _ _ h1, Rep.mono hF h2⟩
  | res => exact hres h
  | tup xs =>
    obtain ⟨a, vs, h1, h2, h3⟩ := h
    exact ⟨a, vs, hi _ _ h1, hF _ _ h2, RepL.mono hF h3⟩
  | tpz xs =>
    obtain ⟨a, vs, o, h1, h2, h3, h4, h5⟩ := h
    exact ⟨a, vs, o, hi _ _ h1, hF _ _ h2, h3, h4, RepL.mono hF h5⟩
  | dcT ks xs =>
    obtain ⟨a, ws, h1, h2, h3, h4, h5⟩ := h
    exact ⟨a, ws, hi _ _ h1, hn _ h1 h2, hH _ _ h1 h3, h4, RepL.mono hF h5⟩
  | dcN η ks xs =>
    obtain ⟨a, es, h1, h2, h3, h4, h5, h6⟩ := h
    exact ⟨a, es, hi _ _ h1, hn _ h1 h2, hH _ _ h1 h3, h4, RepL.mono hF h5, RepL.mono hF h6⟩
  | tbl p q =>
    obtain ⟨h1, h2, ps, h3, h4, h5⟩ := h
    refine ⟨hi _ _ h1, hn _ h1 h2, ps, hH _ _ h1 h3, h4, fun pos cv e => ?_⟩
    obtain ⟨c, e1, e2⟩ := h5 pos cv e
    exact ⟨c, e1, hF _ _ e2⟩
  | dvs xs =>
    obtain ⟨a, o, η, es, h1, h2, h3⟩ := h
    exact ⟨a, o, η, es, hi _ _ h1, hF _ _ h2, RepL.mono hF h3⟩
  | adr j a => exact ⟨hres h.1, hi _ _ h.2.1, h.2.2⟩
  | tblC p q c' =>
    obtain ⟨⟨h1, h2, ps, h3, h4, h5⟩, h6⟩ := h
    refine ⟨⟨hi _ _ h1, hn _ h1 h2, ps, hH _ _ h1 h3, h4, fun pos cv e => ?_⟩, hF _ _ h6⟩
    obtain ⟨c, e1, e2⟩ := h5 pos cv e
    exact ⟨c, e1, hF _ _ e2⟩
theorem CellAt.there {k : Nat} {c : Cell} (h : CellAt K io F H k c) (hc : ∀ x, c ≠ .fz x) (hc2 : c ≠ .res ∧ ∀ j a, c ≠ .adr j a) (hc3 : ∀ xs, c ≠ .tup xs) (hc4 : ∀ xs, c ≠ .dvs xs ∧ c ≠ .tpz xs) : ∃ a o, io[k]? = some (some a) ∧ F a = none ∧ H a = some o := by
  cases c with
  | lst xs => obtain ⟨a, vs, h1, h2, h3, h4⟩ := h; exact ⟨a, _, h1, h2, h3⟩
  | lsv ks => obtain ⟨a, vs, h1, h2, h3, h4⟩ := h; exact ⟨a, _, h1, h2, h3⟩
  | dct ks xs => obtain ⟨a, vs, h1, h2, h3, h4⟩ := h; exact ⟨a, _, h1, h2, h3⟩
  | ins cc ns xs => obtain ⟨a, dx, vs, h1, h2, h3, h4⟩ := h; exact ⟨a, _, h1, h2, h3⟩
  | fz x => exact absurd rfl (hc x)
  | res => exact absurd rfl hc2.1
  | adr j a => exact absurd rfl (hc2.2 j a)
  | tup xs => exact absurd rfl (hc3 xs)
  | dcT ks xs => obtain ⟨a, vs, h1, h2, h3, h4⟩ := h; exact ⟨a, _, h1, h2, h3⟩
  | dcN η ks xs => obtain ⟨a, es, h1, h2, h3, h4⟩ := h; exact ⟨a, _, h1, h2, h3⟩
  | tbl x q => obtain ⟨h1, h2, ps, h3, h4⟩ := h; exact ⟨lamT K x, _, h1, h2, h3⟩
  | dvs xs => exact absurd rfl (hc4 xs).1
  | tpz xs => exact absurd rfl (hc4 xs).2
  | tblC x q c => obtain ⟨⟨h1, h2, ps, h3, h4⟩, _⟩ := h; exact ⟨lamT K x, _, h1, h2, h3⟩
end
end Mir

namespace Mir
open PySem L2
section
variable {K : PySem.W.Frag} {io io1 io2 : Io} {F F1 F2 H H1 H2 : Hp} {S : Sto}
theorem Sta.freeze (st : Sta K io F S H) {k : Nat} {a : Addr} {o : HO} {x : P} (ha : io[k]? = some (some a)) (hF : F a = none) (hH : H a = some o) (hx : Rep K (upd F a o) x (.ref a)) :
    Sta K io (upd F a o) (S.set k (.fz x)) H ∧ Nxt io F H io (upd F a o) H := by
  refine ⟨⟨by rw [List.length_set]; exact st.len, st.inj, fun b u e => ?_, st.trk, fun j d e => ?_⟩, ⟨fun _ _ h => h, upd_same_of hF, fun b u e n => e, fun _ _ h => .inl h, fun b e => e, fun b e => by
    by_cases hb : b = a
    · subst hb; exact .inr (.inr ⟨k, ha⟩)
    · rw [upd_ne hb] at e; exact .inl e⟩⟩
  · by_cases hb : b = a
    · subst hb; rw [upd_same] at e; cases e; exact hH
    · rw [upd_ne hb] at e; exact st.sub _ _ e
  · by_cases hj : j = k
    · subst hj
      rw [List.getElem?_set_self (by
        have := (List.getElem?_eq_some_iff.mp ha).1
        rw [st.len] at this
        exact this)] at e
      cases e
      exact ⟨a, ha, hx⟩
    · rw [List.getElem?_set_ne (Ne.symm hj)] at e
      refine (st.cel j d e).mono (fun _ _ z => z) (upd_same_of hF) (fun b hb hn => ?_) fun b u hb hu => hu
      rw [upd_ne (fun q => by subst q; exact hj (st.inj j k _ hb ha))]
      exact hn
end

def XRep (K : PySem.W.Frag) (F H : Hp) : XD → Option Addr → Prop
  | none, d => d = none
  | some (ns, xs), d => ∃ a gs, d = some a ∧ F a = some (.xd gs) ∧ gs.map (·.1) = ns ∧ RepL K F xs (gs.map (·.2))
def RG {A B : Type} (K : PySem.W.Frag) (R : Io → Hp → A → B → Prop) (r : Res A) (io : Io) (F H : Hp) (Q : B → Hp → Prop) (W : XK) : Prop := match r with
  | .ok d S' => ∀ io' F' H' v, Nxt io F H io' F' H' → Sta K io' F' S' H' → R io' F' d v → Q v H'
  | .exc c x S' => ∀ io' F' H' d, Nxt io F H io' F' H' → Sta K io' F' S' H' → XRep K F' H' x d → W (.ref (He.ga K c)) d H'
  | .bad => False
section
variable {K : PySem.W.Frag} {io : Io} {F H : Hp} {S : Sto} {A B C D : Type} {R : Io → Hp → A → B → Prop} {R' : Io → Hp → C → D → Prop} {Q : D → Hp → Prop} {Q1 : B → Hp → Prop} {W : XK}
theorem RG.step {io1 : Io} {F1 H1 : Hp} {r : Res A} {Q : B → Hp → Prop} (nx : Nxt io F H io1 F1 H1) (h : RG K R r io F H Q W) : RG K R r io1 F1 H1 Q W := by
  cases r with
  | ok a S => exact fun io' F' H' v n s rp => h io' F' H' v (nx.trans n) s rp
  | exc c x S => exact fun io' F' H' d n s rp => h io' F' H' d (nx.trans n) s rp
  | bad => exact h
theorem RG.bind {r : Res A} {f : A → Sto → Res C} (h : RG K R' (r.bind f) io F H Q W)
    (k : ∀ a S1 io1 F1 H1 v, r = .ok a S1 → Nxt io F H io1 F1 H1 → Sta K io1 F1 S1 H1 → R io1 F1 a v → RG K R' (f a S1) io1 F1 H1 Q W → Q1 v H1) : RG K R r io F H Q1 W := by
  cases r with
  | ok a S => exact fun io' F' H' v n s rp => k a S io' F' H' v rfl n s rp (RG.step n h)
  | exc c x S => exact h
  | bad => exact h
theorem RG.val {d : A} {v : B} {Q : B → Hp → Prop} (st : Sta K io F S H) (hr : R io F d v) (h : RG K R (.ok d S) io F H Q W) : Q v H := h io F H v Nxt.refl st hr
end
abbrev RepA (K : PySem.W.Frag) : Io → Hp → Vl → V → Prop := fun io F d v => RepV K io F d v
def RepO (K : PySem.W.Frag) (io : Io) (F : Hp) : Option Vl → Option V → Prop
  | none, _ => True
  | some d, o => ∃ v, o = some v ∧ RepV K io F d v
def Env (K : PySem.W.Frag) (io : Io) (F : Hp) : En → St → Prop
  | [], s => s = []
  | d :: ds, s => ∃ o r, s = o :: r ∧ RepO K io F d o ∧ Env K io F ds r
section
variable {K : PySem.W.Frag} {io io' : Io} {F F' H H' : Hp}
theorem RepO.mono (hi : ∀ (k : Nat) (a : Addr), io[k]? = some (some a) → io'[k]? = some (some a)) (e : Same F F') : ∀ {d : Option Vl} {o : Option V}, RepO K io F d o → RepO K io' F' d o
  | none, _, _ => trivial
  | some _, _, ⟨v, e1, h⟩ => ⟨v, e1, h.mono hi e⟩
theorem Env.mono (hi : ∀ (k : Nat) (a : Addr), io[k]? = some (some a) → io'[k]? = some (some a)) (e : Same F F') : ∀ {ds : En} {s : St}, Env K io F ds s → Env K io' F' ds s
  | [], _, h => h
  | d :: ds, _, ⟨o, r, e1, h1, h2⟩ => ⟨o, r, e1, h1.mono hi e, Env.mono hi e h2⟩
theorem Env.set {d : Vl} {v : V} (hr : RepV K io F d v) : ∀ {ds : En} {s : St} (i : Nat), Env K io F ds s → Env K io F (ds.set i (some d)) (s.set i (some v))
  | [], _, _, h => by
    have h' : _ = _ := h
    subst h'
    exact rfl
  | x :: ds, s, 0, ⟨o, r, e1, h1, h2⟩ => by
    subst e1
    exact ⟨some v, r, rfl, ⟨v, rfl, hr⟩, h2⟩
  | x :: ds, s, i + 1, ⟨o, r, e1, h1, h2⟩ => by
    subst e1
    exact ⟨o, _, rfl, h1, Env.set hr i h2⟩
end

inductive Fl where
  | nx (ρ : En) | rt (d : Vl) | bk (ρ : En) | ct (ρ : En) | xc (ρ : En) (c : Str) (d : XD)
inductive RF where
  | ok (f : Fl) (S : Sto)
  | bad
abbrev MS := En → Sto → RF
def RS (K : PySem.W.Frag) (r : RF) (io : Io) (F H : Hp) (D : Ends) (W : WX) : Prop := match r with
  | .ok (.nx ρ) S' => ∀ io' F' H' σ', Nxt io F H io' F' H' → Sta K io' F' S' H' → Env K io' F' ρ σ' → D.nx σ' H'
  | .ok (.rt d) S' => ∀ io' F' H' v, Nxt io F H io' F' H' → Sta K io' F' S' H' → RepV K io' F' d v → D.rt v H'
  | .ok (.bk ρ) S' => ∀ io' F' H' σ', Nxt io F H io' F' H' → Sta K io' F' S' H' → Env K io' F' ρ σ' → D.bk σ' H'
  | .ok (.ct ρ) S' => ∀ io' F' H' σ', Nxt io F H io' F' H' → Sta K io' F' S' H' → Env K io' F' ρ σ' → D.ct σ' H'
  | .ok (.xc ρ c x) S' => ∀ io' F' H' d σ', Nxt io F H io' F' H' → Sta K io' F' S' H' → Env K io' F' ρ σ' → XRep K F' H' x d → W (.ref (He.ga K c)) d σ' H'
  | .bad => False
def OS (X : Cx) (W : WX) (st : Stmt) (m : MS) : Prop := ∃ t, PS X st t ∧ ∀ (ρ : En) (S : Sto) (io : Io) (F : Hp) (σ : St) (H : Hp) (D : Ends), Sta X.K io F S H → Env X.K io F ρ σ →
  RS X.K (m ρ S) io F H D W → t D σ H
def OSs (X : Cx) (W : WX) (st : List Stmt) (m : MS) : Prop := ∃ t, PSs X st t ∧ ∀ (ρ : En) (S : Sto) (io : Io) (F : Hp) (σ : St) (H : Hp) (D : Ends), Sta X.K io F S H → Env X.K io F ρ σ →
  RS X.K (m ρ S) io F H D W → t D σ H
section
variable {K : PySem.W.Frag} {io : Io} {F H : Hp} {S : Sto} {A B : Type} {R : Io → Hp → A → B → Prop} {Q1 : B → Hp → Prop} {W : WX} {D : Ends} {ρ : En} {σ : St}
theorem RS.step {io1 : Io} {F1 H1 : Hp} {r : RF} (nx : Nxt io F H io1 F1 H1) (h : RS K r io F H D W) : RS K r io1 F1 H1 D W := by
  cases r with
  | ok f S =>
    cases f with
    | nx ρ => exact fun io' F' H' v n s rp => h io' F' H' v (nx.trans n) s rp
    | rt ρ => exact fun io' F' H' v n s rp => h io' F' H' v (nx.trans n) s rp
    | bk ρ => exact fun io' F' H' v n s rp => h io' F' H' v (nx.trans n) s rp
    | ct ρ => exact fun io' F' H' v n s rp => h io' F' H' v (nx.trans n) s rp
    | xc ρ c x => exact fun io' F' H' d v n s rp xr => h io' F' H' d v (nx.trans n) s rp xr
  | bad => exact h
end
end Mir

namespace Mir
open PySem L2

def op2 (f : P → P → Option P) (x y : Vl) (S : Sto) : Res Vl := match rd S x, rd S y with
  | some x, some y => (match f x y with
    | some z => .ok (.p z) S
    | none => .bad)
  | _, _ => .bad
def seqR (f : Vl → Sto → Res P) : List Vl → Sto → Res (List P)
  | [], S => .ok [] S
  | x :: xs, S => (f x S).bind fun y S1 => (seqR f xs S1).bind fun ys S2 => .ok (y :: ys) S2
def frzN : Nat → Vl → Sto → Res P
  | 0, x, S => (match x with
    | .p x => .ok x S
    | .c _ => .bad)
  | n + 1, x, S => match x with
    | .p x => .ok x S
    | .c k => match S[k]? with
      | some (.lst xs) => .ok (.lst xs) (S.set k (.fz (.lst xs)))
      | some (.dct ks xs) => .ok (.dct ks xs) (S.set k (.fz (.dct ks xs)))
      | some (.fz x) => .ok x S
      | some (.tup xs) => .ok (.tup xs) S
      | some (.tpz xs) => .ok (.tup xs) S
      | some (.lsv xs) => (seqR (frzN n) xs S).bind fun ys S1 => (match S1[k]? with
        | some (.lsv _) => .ok (.lst ys) (S1.set k (.fz (.lst ys)))
        | _ => .bad)
      | some (.ins c ns xs) => (seqR (frzN n) xs S).bind fun ys S1 => (match S1[k]? with
        | some (.ins c' ns' _) => if c' = c ∧ ns' = ns then .ok (.obj c ns ys) (S1.set k (.fz (.obj c ns ys))) else .bad
        | _ => .bad)
      | _ => .bad
def frz (x : Vl) (S : Sto) : Res P := frzN 3 x S
theorem seqR_nox {f : Vl → Sto → Res P} (hf : ∀ x S c d S', f x S ≠ .exc c d S') : ∀ (xs : List Vl) (S : Sto) (c : Str) (d : XD) (S' : Sto), seqR f xs S ≠ .exc c d S'
  | [], S, c, d, S', e => nomatch e
  | x :: xs, S, c, d, S', e => by
    have e : ((f x S).bind fun y S1 => (seqR f xs S1).bind fun ys S2 => Res.ok (y :: ys) S2) = .exc c d S' := e
    cases q : f x S with
    | bad => rw [q] at e; cases e
    | exc c' d' S1 => exact hf _ _ _ _ _ q
    | ok y S1 =>
      rw [q] at e
      have e : ((seqR f xs S1).bind fun ys S2 => Res.ok (y :: ys) S2) = .exc c d S' := e
      cases q2 : seqR f xs S1 with
      | bad => rw [q2] at e; cases e
      | exc c' d' S2 => exact seqR_nox hf xs S1 c' d' S2 q2
      | ok ys S2 => rw [q2] at e; cases e
theorem frzN_nox : ∀ (n : Nat) (x : Vl) (S : Sto) (c : Str) (d : XD) (S' : Sto), frzN n x S ≠ .exc c d S'
  | 0, .p _, S, c, d, S', e => nomatch e
  | 0, .c _, S, c, d, S', e => nomatch e
  | n + 1, .p _, S, c, d, S', e => nomatch e
  | n + 1, .c k, S, c, d, S', e => by
    unfold frzN at e
    dsimp only at e
    split at e
    · cases e
    · cases e
    · cases e
    · cases e
    · cases e
    · rename_i xs _
      cases q : seqR (frzN n) xs S with
      | bad => rw [q] at e; cases e
      | exc c' d' S1 => exact seqR_nox (frzN_nox n) _ _ _ _ _ q
      | ok ys S1 =>
        rw [q] at e
        have e : (match S1[k]? with
          | some (.lsv _) => Res.ok (P.lst ys) (S1.set k (.fz (.lst ys)))
          | _ => .bad) = .exc c d S' := e
        split at e <;> cases e
    · rename_i c2 ns xs _
      cases q : seqR (frzN n) xs S with
      | bad => rw [q] at e; cases e
      | exc c' d' S1 => exact seqR_nox (frzN_nox n) _ _ _ _ _ q
      | ok ys S1 =>
        rw [q] at e
        have e : (match S1[k]? with
          | some (.ins c' ns' _) => if c' = c2 ∧ ns' = ns then Res.ok (P.obj c2 ns ys) (S1.set k (.fz (.obj c2 ns ys))) else .bad
          | _ => .bad) = .exc c d S' := e
        split at e
        · split at e <;> cases e
        · cases e
    · cases e
theorem frz_nox (x : Vl) (S : Sto) (c : Str) (d : XD) (S' : Sto) : frz x S ≠ .exc c d S' := frzN_nox 3 x S c d S'
def BinOk (K : PySem.W.Frag) (r : R2) (f : P → P → Option P) : Prop := ∀ (io : Io) (F : Hp) (S : Sto) (H : Hp) (x y : P) (v w : V) (z : P) (Q : VK), Sta K io F S H → RepR K F H x v → RepR K F H y w → f x y = some z →
  (∀ F' H' u, Nxt io F H io F' H' → Sta K io F' S H' → Rep K F' z u → Q u H') → r v w H Q
section
variable {X : Cx} {W : WX} {a b c : Expr} {ma mb mc : ME} {pos : Pos} {ta tb : MT} {es : List Expr} {mas : MA}
theorem Sta.op2 {K : PySem.W.Frag} {io : Io} {F : Hp} {S : Sto} {H : Hp} {r : R2} {f : P → P → Option P} {d d2 : Vl} {v v2 : V} {Q : VK} {E : XK} (hf : BinOk K r f) (st : Sta K io F S H) (r1 : RepV K io F d v) (r2 : RepV K io F d2 v2)
    (h : RG K (RepA K) (Mir.op2 f d d2 S) io F H Q E) : r v v2 H Q := by
  unfold Mir.op2 at h
  cases e1 : Mir.rd S d with
  | none => rw [e1] at h; exact h.elim
  | some x =>
    cases e2 : Mir.rd S d2 with
    | none => rw [e1, e2] at h; exact h.elim
    | some y =>
      rw [e1, e2] at h
      dsimp only at h
      cases e3 : f x y with
      | none => rw [e3] at h; exact h.elim
      | some z =>
        rw [e3] at h
        exact hf io F S H x y v v2 z Q st (st.rd r1 e1) (st.rd r2 e2) e3 fun F' H' u n s rp => h io F' H' u n s rp
end
section
variable {K : PySem.W.Frag} {io : Io} {F : Hp} {S : Sto} {H : Hp}
def FrzOk (K : PySem.W.Frag) (H : Hp) (io : Io) (f : Vl → Sto → Res P) : Prop := ∀ (F : Hp) (S S' : Sto) (d : Vl) (v : V) (x : P), Sta K io F S H → RepV K io F d v → f d S = .ok x S' → ∃ F', Nxt io F H io F' H ∧ Sta K io F' S' H ∧ Rep K F' x v
theorem FrzOk.seq {f : Vl → Sto → Res P} (hf : FrzOk K H io f) : ∀ {ds : List Vl} {vs : List V} {F : Hp} {S S' : Sto} {xs : List P}, Sta K io F S H → RepVs K io F ds vs → seqR f ds S = .ok xs S' → ∃ F', Nxt io F H io F' H ∧ Sta K io F' S' H ∧ RepL K F' xs vs
  | [], vs, F, S, S', xs, st, r, e => by
    cases e
    have r' : _ = _ := r
    subst r'
    exact ⟨F, Nxt.refl, st, .nil⟩
  | d :: ds, vs, F, S, S', xs, st, ⟨v, r, e1, h1, h2⟩, e => by
    subst e1
    have e : ((f d S).bind fun y S1 => (seqR f ds S1).bind fun ys S2 => Res.ok (y :: ys) S2) = .ok xs S' := e
    cases q : f d S with
    | bad => rw [q] at e; cases e
    | exc c x S1 => rw [q] at e; cases e
    | ok y S1 =>
      rw [q] at e
      have e : ((seqR f ds S1).bind fun ys S2 => Res.ok (y :: ys) S2) = .ok xs S' := e
      obtain ⟨F1, n1, s1, rp⟩ := hf _ _ _ _ _ _ st h1 q
      cases q2 : seqR f ds S1 with
      | bad => rw [q2] at e; cases e
      | exc c x S2 => rw [q2] at e; cases e
      | ok ys S2 =>
        rw [q2] at e
        cases e
        obtain ⟨F2, n2, s2, rps⟩ := FrzOk.seq hf s1 (h2.mono n1.han n1.fr) q2
        exact ⟨F2, n1.trans n2, s2, .cons (Rep.mono n2.fr rp) rps⟩
theorem frzN_ok : ∀ n, FrzOk K H io (frzN n)
  | 0 => fun F S S' d v x st r e => by
    cases d with
    | p y => cases e; exact ⟨F, Nxt.refl, st, r⟩
    | c k => cases e
  | n + 1 => fun F S S' d v x st r e => by
    cases d with
    | p y => cases e; exact ⟨F, Nxt.refl, st, r⟩
    | c k =>
      obtain ⟨a, ha, rfl⟩ := r
      unfold frzN at e
      dsimp only at e
      cases hk : S[k]? with
      | none => rw [hk] at e; cases e
      | some c =>
        rw [hk] at e
        cases c with
        | lst xs =>
          cases e
          obtain ⟨b, vs, hb, hF, hH, hr⟩ := st.cel k _ hk
          rw [ha] at hb
          cases hb
          have rp : Rep K (upd F a (.lst vs)) (.lst xs) (.ref a) := ⟨a, vs, rfl, upd_same, RepL.mono (upd_same_of hF) hr⟩
          obtain ⟨s2, n2⟩ := st.freeze ha hF hH rp
          exact ⟨_, n2, s2, rp⟩
        | dct ks xs =>
          cases e
          obtain ⟨b, vs, hb, hF, hH, hr, hr2⟩ := st.cel k _ hk
          rw [ha] at hb
          cases hb
          have rp : Rep K (upd F a (.dK vs)) (.dct ks xs) (.ref a) := ⟨a, vs, rfl, upd_same, RepL.mono (upd_same_of hF) hr, RepL.mono (upd_same_of hF) hr2⟩
          obtain ⟨s2, n2⟩ := st.freeze ha hF hH rp
          exact ⟨_, n2, s2, rp⟩
        | fz y =>
          cases e
          obtain ⟨b, hb, hr⟩ := st.cel k _ hk
          rw [ha] at hb
          cases hb
          exact ⟨F, Nxt.refl, st, hr⟩
        | tup ys =>
          cases e
          obtain ⟨b, vs, hb, hF, hr⟩ := st.cel k _ hk
          rw [ha] at hb
          cases hb
          exact ⟨F, Nxt.refl, st, a, vs, rfl, SqT.of hF, hr⟩
        | tpz ys =>
          cases e
          obtain ⟨b, vs, o, hb, hF, _, _, hr⟩ := st.cel k _ hk
          rw [ha] at hb
          cases hb
          exact ⟨F, Nxt.refl, st, a, vs, rfl, .inl (.inr ⟨o, hF⟩), hr⟩
        | dcT ks ys => cases e
        | dcN η ks ys => cases e
        | tbl p q => cases e
        | dvs _ => cases e
        | tblC _ _ _ => cases e
        | adr _ _ => cases e
        | lsv xs =>
          dsimp only at e
          obtain ⟨b, vs, hb, hF, hH, hr, _⟩ := st.cel k _ hk
          rw [ha] at hb
          cases hb
          cases q : seqR (frzN n) xs S with
          | bad => rw [q] at e; cases e
          | exc c x S2 => rw [q] at e; cases e
          | ok ys S2 =>
            rw [q] at e
            have e : (match S2[k]? with
              | some (.lsv _) => Res.ok (P.lst ys) (S2.set k (.fz (.lst ys)))
              | _ => .bad) = .ok x S' := e
            obtain ⟨F3, n3, s3, rps⟩ := FrzOk.seq (frzN_ok n) st hr q
            split at e
            · rename_i xs' hk'
              cases e
              obtain ⟨b, vs', hb, hF', hH', _⟩ := s3.cel k _ hk'
              rw [ha] at hb
              cases hb
              rw [hH] at hH'
              cases hH'
              have rp : Rep K (upd F3 a (.lst vs)) (.lst ys) (.ref a) := ⟨a, vs, rfl, upd_same, RepL.mono (upd_same_of hF') rps⟩
              obtain ⟨s2, n2⟩ := s3.freeze ha hF' hH rp
              exact ⟨_, n3.trans n2, s2, rp⟩
            · cases e
        | ins cc ns xs =>
          dsimp only at e
          obtain ⟨b, dx, gs, hb, hF, hH, hn, hr, _⟩ := st.cel k _ hk
          rw [ha] at hb
          cases hb
          cases q : seqR (frzN n) xs S with
          | bad => rw [q] at e; cases e
          | exc c x S2 => rw [q] at e; cases e
          | ok ys S2 =>
            rw [q] at e
            have e : (match S2[k]? with
              | some (.ins c' ns' _) => if c' = cc ∧ ns' = ns then Res.ok (P.obj cc ns ys) (S2.set k (.fz (.obj cc ns ys))) else .bad
              | _ => .bad) = .ok x S' := e
            obtain ⟨F3, n3, s3, rps⟩ := FrzOk.seq (frzN_ok n) st hr q
            split at e
            · rename_i c' ns' xs' hk'
              split at e
              · rename_i hcn
                cases e
                obtain ⟨b, dx', gs', hb, hF', hH', _⟩ := s3.cel k _ hk'
                rw [ha] at hb
                cases hb
                have rp : Rep K (upd F3 a (.ins (He.ga K cc) dx gs)) (.obj cc ns ys) (.ref a) := ⟨a, dx, gs, rfl, upd_same, hn, RepL.mono (upd_same_of hF') rps⟩
                obtain ⟨s2, n2⟩ := s3.freeze ha hF' hH rp
                exact ⟨_, n3.trans n2, s2, rp⟩
              · cases e
            · cases e
        | res => cases e
theorem Sta.frz (st : Sta K io F S H) {d : Vl} {v : V} {C D : Type} {R' : Io → Hp → C → D → Prop} {g : P → Sto → Res C} {Q : D → Hp → Prop} {E : XK} (r1 : RepV K io F d v) (h : RG K R' ((Mir.frz d S).bind g) io F H Q E) :
    ∃ x S' F', Nxt io F H io F' H ∧ Sta K io F' S' H ∧ Rep K F' x v ∧ Mir.frz d S = .ok x S' ∧ RG K R' (g x S') io F' H Q E := by
  cases q : Mir.frz d S with
  | bad => rw [q] at h; exact h.elim
  | exc c x S1 => exact absurd q (frz_nox _ _ _ _ _)
  | ok x S1 =>
    rw [q] at h
    obtain ⟨F1, n1, s1, rp⟩ := frzN_ok 3 _ _ _ _ _ _ st r1 q
    exact ⟨x, S1, F1, n1, s1, rp, rfl, RG.step n1 h⟩
end
section
variable {X : Cx} {W : WX} {pos : Pos} {es : List Expr} {mas : MA}
end
end Mir

namespace Mir
open PySem L2
def RepRs (K : PySem.W.Frag) (F H : Hp) : List P → List V → Prop
  | [], vs => vs = []
  | x :: xs, vs => ∃ v r, vs = v :: r ∧ RepR K F H x v ∧ RepRs K F H xs r
section
variable {K : PySem.W.Frag} {io : Io} {F : Hp} {S : Sto} {H : Hp}
theorem RepRs.one {x : P} {vs : List V} (h : RepRs K F H [x] vs) : ∃ v, vs = [v] ∧ RepR K F H x v := by
  obtain ⟨v, r, e, h1, h2⟩ := h
  have h2 : r = [] := h2
  subst h2
  exact ⟨v, e, h1⟩
theorem RepRs.two {x y : P} {vs : List V} (h : RepRs K F H [x, y] vs) : ∃ v w, vs = [v, w] ∧ RepR K F H x v ∧ RepR K F H y w := by
  obtain ⟨v, r, e, h1, h2⟩ := h
  obtain ⟨w, rfl, h3⟩ := h2.one
  exact ⟨v, w, e, h1, h3⟩
end
section
variable {X : Cx} {W : WX} {a b c e o : Expr} {ma mb mc mo : ME} {pos : Pos} {es : List Expr} {mas : MA}
theorem IxR.or {r r' : R2} (h : IxR X r) (h' : IxR X r') : IxR X (fun x y H Q => r x y H Q ∨ r' x y H Q) := by
  intro value slice pins s σ H x y v u Q I rx ry q hs
  rcases q with q | q
  · exact h value slice pins s σ H x y v u Q I rx ry q hs
  · exact h' value slice pins s σ H x y v u Q I rx ry q hs
end
end Mir

namespace Mir
open PySem L2
theorem CallR.or {X : Cx} {f : Value} {r r' : List V → Hp → VK → Prop} (h : CallR X f r) (h' : CallR X f r') : CallR X f (fun xs H Q => r xs H Q ∨ r' xs H Q) := by
  intro pins s σ H xs us Q I rv q
  rcases q with q | q
  · exact h pins s σ H xs us Q I rv q
  · exact h' pins s σ H xs us Q I rv q
section
variable {K : PySem.W.Frag} {F H : Hp}
end
def ins (n : Int) : List Int → List Int
  | [] => [n]
  | m :: r => if n ≤ m then n :: m :: r else m :: ins n r
section
variable {K : PySem.W.Frag}
end
section
variable {K : PySem.W.Frag} {F H : Hp}
end
section
variable {X : Cx} {W : WX} {a b c e o : Expr} {ma mb mc mo : ME} {pos p apos : Pos}
end
end Mir

namespace Mir
open PySem L2
section
variable {X : Cx} {W : WX}
end
section
variable {X : Cx} {W : WX} {pos : Pos}
theorem RG.imp {K : PySem.W.Frag} {A B : Type} {R R1 : Io → Hp → A → B → Prop} {Q : B → Hp → Prop} {E : XK} {io : Io} {F H : Hp} {r : Res A} (hr : ∀ io F a b, R1 io F a b → R io F a b) (h : RG K R r io F H Q E) : RG K R1 r io F H Q E := by
  cases r with
  | ok a S => exact fun io' F' H' v n s rp => h io' F' H' v n s (hr _ _ _ _ rp)
  | exc c x S => exact h
  | bad => exact h
end
theorem PI.or {X : Cx} {tg iter : Expr} {a b : TI} (h : PI X tg iter a) (h' : PI X tg iter b) : PI X tg iter (fun σ H R => a σ H R ∨ b σ H R) := ⟨fun pins s σ H R I q => by
  rcases q with q | q
  · exact h.run pins s σ H R I q
  · exact h'.run pins s σ H R I q⟩
section
variable {K : PySem.W.Frag} {F : Hp}
end
section
variable {X : Cx} {W : WX} {a b e : Expr} {ma mb : ME} {pos p tpos : Pos} {tg : Expr}
end
end Mir

namespace Mir
open PySem L2
section
variable {K : PySem.W.Frag} {io : Io} {F : Hp} {S : Sto} {H : Hp}
theorem RepVs.append : ∀ {xs ys : List Vl} {vs ws : List V}, RepVs K io F xs vs → RepVs K io F ys ws → RepVs K io F (xs ++ ys) (vs ++ ws)
  | [], _, _, _, h, t => by
    have h' : _ = _ := h
    subst h'
    exact t
  | x :: xs, ys, vs, ws, h, t => by
    obtain ⟨v, r, e1, h1, h2⟩ := h
    subst e1
    exact ⟨v, r ++ ws, rfl, h1, RepVs.append h2 t⟩
theorem RepVs.set : ∀ {xs : List Vl} {vs : List V} {x : Vl} {v : V} (i : Nat), RepVs K io F xs vs → RepV K io F x v → RepVs K io F (xs.set i x) (vs.set i v)
  | [], _, _, _, _, h, _ => by
    have h' : _ = _ := h
    subst h'
    exact rfl
  | y :: xs, vs, x, v, 0, h, hx => by
    obtain ⟨u, r, e1, h1, h2⟩ := h
    subst e1
    exact ⟨v, r, rfl, hx, h2⟩
  | y :: xs, vs, x, v, i + 1, h, hx => by
    obtain ⟨u, r, e1, h1, h2⟩ := h
    subst e1
    exact ⟨u, r.set i v, rfl, h1, RepVs.set i h2 hx⟩
theorem RepVs.one {x : Vl} {vs : List V} (h : RepVs K io F [x] vs) : ∃ v, vs = [v] ∧ RepV K io F x v := by
  obtain ⟨v, r, e, h1, h2⟩ := h
  have h2 : r = [] := h2
  subst h2
  exact ⟨v, e, h1⟩
end
section
variable {X : Cx} {W : WX} {a b c e o : Expr} {ma mb mc mo : ME} {pos apos : Pos} {es : List Expr} {mas : MA}
end
end Mir

namespace Mir
open PySem L2
structure RoomG (k : Nat) (A : Around) : Prop where
  r : Room k A
  gd : A.guards = some []
theorem RoomG.mono {j k : Nat} {A : Around} (r : RoomG k A) (h : j ≤ k) : RoomG j A := ⟨r.r.mono h, r.gd⟩
structure FnG (P : Program) (w : World) (K : PySem.W.Frag) (mg : Str → Option Value) (base : Heap) (k : Nat) (f : Addr) (fd : FuncData) (ps : List Str) (sp : Sp) : Prop where
  len : ∀ vs H Q E, sp vs H Q E → vs.length = ps.length
  run : ∀ (A : Around) (outer : List PySem.Env) (s : Shared) (H : Hp) (args : Args) (us : List Value) (vs : List V) (Q : VK) (E : XK), RoomG k A → Env0 P w K mg base A outer s H → BindsTo s fd args (ps.zip us) → Vals vs us → sp vs H Q E →
    codeAny (model P w) A (.call (.ref f) args) (CR (L2.CX P w) outer P w H s Q E) s
theorem FnG.mono {P : Program} {w : World} {K : PySem.W.Frag} {mg : Str → Option Value} {base : Heap} {j k : Nat} {f : Addr} {fd : FuncData} {ps : List Str} {sp : Sp} (F : FnG P w K mg base j f fd ps sp) (h : j ≤ k) : FnG P w K mg base k f fd ps sp :=
  ⟨F.len, fun A outer s H args us vs Q E hr => F.run A outer s H args us vs Q E (hr.mono h)⟩
abbrev MF := List Vl → Sto → Res Vl
def spM (K : PySem.W.Frag) (m : MF) : Sp := fun vs H Q E => ∃ io F S ds, Sta K io F S H ∧ RepVs K io F ds vs ∧ RG K (RepA K) (m ds S) io F H Q E
def retV (n : Nat) (d : Vl) (S : Sto) : Res Vl := match d with
  | .p x => .ok (.p x) (S.take n)
  | .c j => if j < n then .ok (.c j) (S.take n) else (frz (.c j) S).bind fun y S2 => .ok (.p y) (S2.take n)
def endF (n : Nat) (r : RF) : Res Vl := match r with
  | .ok (.rt d) S => retV n d S
  | .ok (.nx _) S => .ok (.p .non) (S.take n)
  | .ok (.xc _ c x) S => .exc c x (S.take n)
  | _ => .bad
section
variable {K : PySem.W.Frag} {io io1 : Io} {F F1 H H1 : Hp} {S S1 : Sto} {Q : VK} {E : XK}
end
section
variable {P : Program} {w : World} {K : PySem.W.Frag} {mg : Str → Option Value} {base : Heap} {x qual : Str} {params : Arguments} {body : List Stmt} {scope : Scope} {dvs : List V} {kws : List (Str × V)} {f : Addr} {fd : FuncData} {N ps : List Str} {k nl : Nat} {m : MS}
end
section
variable {X : Cx} {W : WX} {e o : Expr} {es : List Expr} {mas : MA} {mo : ME} {x : Str} {p pos apos : Pos} {params : Arguments} {ps : List Str} {k j : Nat} {m : MF}
end
def permL {A : Type} (d : A) (pm : List Nat) (xs : List A) : List A := pm.map fun i => xs.getD i d
section
variable {X : Cx} {W : WX} {e o : Expr} {es : List Expr} {mas mks : MA} {me mo : ME} {x : Str} {p pos apos kpos : Pos} {params : Arguments} {ps ks : List Str} {k j n : Nat} {m : MF} {kws : List Keyword} {nm : Option Str} {pm : List Nat}
end
end Mir

namespace Mir
open PySem L2
structure DefM where
  ad : PySem.W.Frag → Addr
  name : Str
  qual : Str
  params : Arguments
  body : List Stmt
  scope : Scope
def fnM (K : PySem.W.Frag) (a : Addr) : He.FnW := match K.lookup a with
  | some ⟨_, _, .func fd, _⟩ => some (fd.name, fd.qualname, fd.params, fd.body, fd.scope, fd.globals, fd.closure, fd.builtins)
  | _ => none
def DefM.val (d : DefM) : He.FnW := some (d.name, d.qual, d.params, .stmts d.body, d.scope, mainGlobals, [], builtinsNs)
def DefM.ok (K : PySem.W.Frag) (d : DefM) : Bool := PySem.W.keepIn K (.ref (d.ad K)) && (match K.lookup (d.ad K) with
  | some ⟨_, _, .func fd, _⟩ => PySem.W.codeIn K fd.code d.qual && He.dflB K fd.defaults []
  | _ => false)
abbrev AlM : Type := Bool × List He.FnW
def obsM (ck : PySem.W.Frag → Bool) (fn : List DefM) (K : PySem.W.Frag) : AlM := (ck K && fn.all fun d => d.ok K, fn.map fun d => fnM K (d.ad K))
def valM (fn : List DefM) : AlM := (true, fn.map DefM.val)
def SaysM (ck : PySem.W.Frag → Bool) (fn : List DefM) (K : PySem.W.Frag) : Prop := obsM ck fn K = valM fn
def hasX (m a : Nat) : Bool := Nat.beq (Nat.land (Nat.shiftRight m a) 1) 1
def addX : List Addr → Nat → List Addr → List Addr × Nat
  | [], m, acc => (acc.reverse, m)
  | a :: l, m, acc => match hasX m a with
    | true => addX l m acc
    | false => addX l (Nat.lor m (Nat.shiftLeft 1 a)) (a :: acc)
def refsX (g : Addr → Option Obj) (a : Addr) : List Addr := match g a with
  | some o => He.refsD o
  | none => []
def bfsX (g : Addr → Option Obj) : Nat → List Addr → Nat → List Addr
  | 0, fr, _ => fr
  | n + 1, fr, m => match addX (fr.flatMap (refsX g)) m [] with
    | (nw, m2) => fr ++ bfsX g n nw m2
def asX (g : Addr → Option Obj) (n : Nat) : List Addr := bfsX g n [mainGlobals] (Nat.shiftLeft 1 mainGlobals)
def obsMG (n : Nat) (ck : PySem.W.Frag → Bool) (fn : List DefM) (g : Addr → Option Obj) : AlM := obsM ck fn (He.frG g (asX g n))
def hookM (n : Nat) (ck : PySem.W.Frag → Bool) (fn : List DefM) : PySem.W.Hook where
  α := AlM
  obs := fun s => obsMG n ck fn s.heap.get?
  val := fun _ => valM fn
  says := fun _ h => ∃ K : PySem.W.Frag, K.In h ∧ SaysM ck fn K
  of := fun _ _ e => ⟨_, He.frG_in, e⟩
  keeps := fun _ _ _ ⟨K, hK, c⟩ k => ⟨K, PySem.W.Frag.In.keeps hK k, c⟩
section
variable {ck : PySem.W.Frag → Bool} {fn : List DefM} {K : PySem.W.Frag}
end
def comTy : List String := ["NoneType", "bool", "int", "str", "tuple", "list", "dict"]
def isiB (K : PySem.W.Frag) (cs : List Str) : Bool := (cs.all fun c => (He.Fa.cls c).ok K && (He.eqO (PySem.W.findIn K (.ref (He.ga K c)) "__class__") (some (some (.builtin "object.__class__"))) && (He.eqO (PySem.W.specialIn K (.builtin "object.__class__") "__get__") (some (some (.builtin "getset_descriptor.__get__"))) &&
    (decide (PySem.W.takesIn K (.builtin "object.__class__") = some true) && decide (PySem.W.mroIn K (He.ga K c) (.type "object") = some true))))) &&
  ((cs.all fun c => comTy.all fun n => decide (PySem.W.kitOne K (.ref (He.ga K c)) (.type n) = some false)) && ((cs.all fun c => comTy.all fun n => decide (PySem.W.kitOne K (.type n) (.ref (He.ga K c)) = some false)) &&
    (cs.all fun c => cs.all fun d => decide (c = d) || decide (PySem.W.kitOne K (.ref (He.ga K c)) (.ref (He.ga K d)) = some false))))
section
variable {X : Cx} {W : WX} {a b e o : Expr} {ma mb mo : ME} {pos p : Pos}
end
end Mir

namespace Mir
open PySem L2
section
variable {X : Cx} {W : WX} {a b e o : Expr} {ma mb mo : ME} {pos p : Pos} {k : Nat}
end
def kOf : P → Option Key
  | .int i => some (.inl i)
  | .str x => some (.inr (strOf x))
  | _ => none
section
variable {K : PySem.W.Frag} {F : Hp}
theorem kOf_rep {k : P} {kk : Key} (h : kOf k = some kk) : Rep K F k (kV kk) := by
  cases k <;> cases h <;> rfl
end
section
variable {K : PySem.W.Frag} {io : Io} {F : Hp} {S : Sto} {H : Hp}
end
section
variable {X : Cx} {W : WX} {a b e o : Expr} {ma mb mo : ME} {pos p : Pos} {k : Nat}
end
end Mir

namespace Mir
open PySem L2
def rwpB (y z : List Nat) : List Value → Bool
  | [.str x t, .str w u] => decide (strOf y = x) && (decide (strOf z = w) && (decide (t ≠ 0) && (decide (u ≠ 0) && (decide (t ≠ u) && !(strOf y == strOf z)))))
  | _ => false
mutual
def repK (K : PySem.W.Frag) : P → Value → Bool
  | .non, .none => true
  | .bl b, .bool c => b == c
  | .int i, .int j _ => decide (i = j)
  | .str x, .str y _ => decide (strOf x = y)
  | .ty n, .type m => decide (n = m)
  | .glo x, .ref a => decide (He.ga K x = a)
  | .tup xs, .ref a => (match K.lookup a with
    | some ⟨.type c, _, .seq its _, _⟩ => decide (c = "tuple") && (decide (its.size ≤ sizeLine) && repKs K xs its.toList)
    | _ => false)
  | .rwp y z, .ref a => (match K.lookup a with
    | some ⟨.type c, _, .seq its _, _⟩ => decide (c = "tuple") && rwpB y z its.toList
    | _ => false)
  | _, _ => false
def repKs (K : PySem.W.Frag) : List P → List Value → Bool
  | [], [] => true
  | x :: xs, u :: us => repK K x u && repKs K xs us
  | _, _ => false
end
section
variable {K : PySem.W.Frag}
def gloB (K : PySem.W.Frag) (x : Str) (p : P) : Bool := match PySem.W.nsIn K mainGlobals x with
  | some (some u) => repK K p u
  | _ => false
end
section
variable {X : Cx} {W : WX} {a b c e o : Expr} {ma mb mc mo : ME} {pos p : Pos} {k : Nat}
theorem BinOk.run {K : PySem.W.Frag} {io : Io} {F : Hp} {S : Sto} {H : Hp} {r : R2} {f : P → P → Option P} {d d2 : Vl} {v v2 : V} {C D : Type} {R' : Io → Hp → C → D → Prop} {g : Vl → Sto → Res C} {Q : D → Hp → Prop} {Q1 : VK} {E : XK} (hf : BinOk K r f) (st : Sta K io F S H) (r1 : RepV K io F d v) (r2 : RepV K io F d2 v2)
    (h : RG K R' ((op2 f d d2 S).bind g) io F H Q E) (k : ∀ z F' H' u, Nxt io F H io F' H' → Sta K io F' S H' → Rep K F' z u → RG K R' (g (.p z) S) io F' H' Q E → Q1 u H') : r v v2 H Q1 := by
  unfold op2 at h
  cases e1 : rd S d with
  | none => rw [e1] at h; exact h.elim
  | some x =>
    cases e2 : rd S d2 with
    | none => rw [e1, e2] at h; exact h.elim
    | some y =>
      rw [e1, e2] at h
      dsimp only at h
      cases e3 : f x y with
      | none => rw [e3] at h; exact h.elim
      | some z =>
        rw [e3] at h
        exact hf io F S H x y v v2 z Q1 st (st.rd r1 e1) (st.rd r2 e2) e3 fun F' H' u n s rp => k z F' H' u n s rp (RG.step n h)
end
end Mir

namespace Mir
open PySem L2
section
variable {K : PySem.W.Frag} {Q : VK} {E : XK}
end
section
variable {X : Cx} {W : WX} {elt tg iter : Expr} {ifs : List Expr} {scope : Scope} {own : List (Str × Nat)} {pos : Pos} {it : MI} {js : List Nat} {g : MG} {t : MT} {e : ME}
end
theorem BinOk.or {K : PySem.W.Frag} {r r' : R2} {f g : P → P → Option P} (h : BinOk K r f) (h' : BinOk K r' g) : BinOk K (fun x y H Q => r x y H Q ∨ r' x y H Q) (fun x y => match f x y with
  | some z => some z
  | none => g x y) := by
  intro io F S H x y v w z Q st rx ry e k
  cases q : f x y with
  | some z' =>
    dsimp only at e
    rw [q] at e
    have e : z' = z := Option.some.inj e
    subst e
    exact .inl (h io F S H x y v w z' Q st rx ry q k)
  | none =>
    dsimp only at e
    rw [q] at e
    exact .inr (h' io F S H x y v w z Q st rx ry e k)
section
variable {X : Cx} {W : WX} {a b : Expr} {ma mb : ME} {pos : Pos} {k : Nat}
end
end Mir

namespace Mir
open PySem L2
section
variable {K : PySem.W.Frag} {io : Io} {F H : Hp} {S : Sto}
theorem Sta.keep (st : Sta K io F S H) : Sta K (io ++ [none]) F (S ++ [.res]) H ∧ Nxt io F H (io ++ [none]) F H := by
  have hi : ∀ (k : Nat) (a : Addr), io[k]? = some (some a) → (io ++ [none])[k]? = some (some a) := fun k a e => by
    rw [List.getElem?_append_left (List.getElem?_eq_some_iff.mp e).1]
    exact e
  have back : ∀ (k : Nat) (a : Addr), (io ++ [none])[k]? = some (some a) → io[k]? = some (some a) := fun k a e => by
    rw [List.getElem?_append] at e
    split at e
    · exact e
    · rename_i hk
      have hk2 : k - io.length = 0 := by
        have := (List.getElem?_eq_some_iff.mp e).1
        simp at this
        omega
      rw [hk2] at e
      cases e
  refine ⟨⟨by rw [List.length_append, List.length_append, st.len]; rfl, fun j k a h1 h2 => st.inj j k a (back _ _ h1) (back _ _ h2), st.sub, fun k a e => st.trk k a (back _ _ e), fun k d e => ?_⟩, ⟨hi, fun _ _ h => h, fun _ _ h _ => h, fun k a e => .inl (back _ _ e), fun _ h => h, fun _ h => .inl h⟩⟩
  rw [List.getElem?_append] at e
  split at e
  · exact (st.cel k d e).mono hi (fun _ _ z => z) (fun _ _ hn => hn) fun _ _ _ hu => hu
  · rename_i hk
    have hk2 : k - S.length = 0 := by
      have := (List.getElem?_eq_some_iff.mp e).1
      simp at this
      omega
    rw [hk2] at e
    have e' : Cell.res = d := by simpa using e
    subst e'
    have : k = io.length := by have := st.len; omega
    subst this
    show (io ++ [none])[io.length]? = some none
    simp
theorem Sta.keeps (st : Sta K io F S H) : ∀ n : Nat, Sta K (io ++ List.replicate n none) F (S ++ List.replicate n .res) H ∧ Nxt io F H (io ++ List.replicate n none) F H
  | 0 => by
    rw [List.replicate_zero, List.replicate_zero, List.append_nil, List.append_nil]
    exact ⟨st, Nxt.refl⟩
  | n + 1 => by
    obtain ⟨s, nx⟩ := Sta.keeps st n
    obtain ⟨s2, n2⟩ := s.keep
    rw [List.append_assoc, List.append_assoc, ← List.replicate_succ', ← List.replicate_succ'] at s2
    rw [List.append_assoc, ← List.replicate_succ'] at n2
    exact ⟨s2, nx.trans n2⟩
end
section
variable {X : Cx} {W : WX} {pos : Pos} {es : List Expr} {mas : MA}
end
section
variable {X : Cx} {W : WX} {pos : Pos} {mo : ME}
end
section
variable {X : Cx} {W : WX} {x : Str} {p pos : Pos} {params : Arguments} {ps : List Str} {k j : Nat} {m : MF}
end
def kyOf : P → Option (Int ⊕ List Nat)
  | .int i => some (.inl i)
  | .str x => some (.inr x)
  | _ => none
def kysOf : List P → Option (List (Int ⊕ List Nat))
  | [] => some []
  | x :: xs => (kyOf x).bind fun a => (kysOf xs).map (a :: ·)
theorem kys_rep {K : PySem.W.Frag} {F : Hp} : ∀ {xs : List P} {vs : List V} {k : List (Int ⊕ List Nat)}, RepL K F xs vs → kysOf xs = some k → vs = (k.map kk).map kV
  | [], vs, k, r, e => by
    have r : vs = [] := r
    cases e
    exact r
  | x :: xs, vs, k, ⟨v, r, e1, h1, h2⟩, e => by
    have e : ((kyOf x).bind fun a => (kysOf xs).map (a :: ·)) = some k := e
    cases hx : kyOf x with
    | none => rw [hx] at e; cases e
    | some a =>
      rw [hx] at e
      have e : (kysOf xs).map (a :: ·) = some k := e
      cases hs : kysOf xs with
      | none => rw [hs] at e; cases e
      | some ks =>
        rw [hs] at e
        cases e
        rw [e1, kys_rep h2 hs]
        have hv : v = kV (kk a) := by
          cases x <;> first
            | (cases hx; done)
            | (cases hx; exact h1)
        rw [hv]
        rfl
def dKey (S : Sto) : Vl → Option (List (Int ⊕ List Nat))
  | .c i => (match S[i]? with
    | some (.tup xs) => kysOf xs
    | _ => none)
  | _ => none
theorem Sta.key {K : PySem.W.Frag} {io : Io} {F H : Hp} {S : Sto} (st : Sta K io F S H) {d : Vl} {v : V} {k : List (Int ⊕ List Nat)} (r : RepV K io F d v) (h : dKey S d = some k) : ∃ b, v = .ref b ∧ H b = some (.tup ((k.map kk).map kV)) := by
  cases d with
  | p x => cases h
  | c i =>
    unfold dKey at h
    dsimp only at h
    split at h
    · rename_i xs hi
      obtain ⟨a, ha, rfl⟩ := r
      obtain ⟨b, vs, hb, hF, hr⟩ := st.cel i _ hi
      rw [ha] at hb
      cases hb
      have := kys_rep hr h
      subst this
      exact ⟨a, rfl, st.sub _ _ hF⟩
    · cases h
theorem Sta.dict {K : PySem.W.Frag} {io : Io} {F H : Hp} {S : Sto} (st : Sta K io F S H) {j : Nat} {v : V} {ks : List (List (Int ⊕ List Nat))} {xs : List P} (r : RepV K io F (.c j) v) (h : S[j]? = some (.dcT ks xs)) :
    ∃ a ws, v = .ref a ∧ io[j]? = some (some a) ∧ F a = none ∧ H a = some (.dT ((ks.map (List.map kk)).zip ws)) ∧ ks.length = ws.length ∧ RepL K F xs ws := by
  obtain ⟨a, ha, rfl⟩ := r
  obtain ⟨b, ws, hb, hF, hH, hl, hr⟩ := st.cel j _ h
  rw [ha] at hb
  cases hb
  exact ⟨a, ws, rfl, ha, hF, hH, hl, hr⟩
section
variable {X : Cx} {W : WX} {a b i o v : Expr} {ma mb mi mo mv : ME} {pos pos' : Pos} {k : Nat}
end
end Mir

namespace NeK
open PySem PySem.Spec PyProof.Rows PySem.SeqAt
section
variable {M : Model} {prog : Program} {w : World} {A : Around} {E : Value → Shared → Prop} {s : Shared} {K : PySem.W.Frag} {x C f : Addr} {ox : Obj} {od : Option Obj} {b tb : Value}
end
end NeK
namespace Mir
open PySem L2
section
variable {X : Cx} {W : WX} {a b : Expr} {ma mb : ME} {x : Str} {pos : Pos} {params : Arguments} {ps : List Str} {k j : Nat} {m : MF}
end
end Mir
namespace Mir
open PySem L2
section
variable {X : Cx} {W : WX} {pos : Pos} {keys : List (Option Expr)} {values : List Expr}
end
section
variable {X : Cx} {W : WX} {i f : Expr} {mi mf : ME} {ti tf : TE} {x : Str} {p0 apos cpos pos : Pos} {d : Addr} {es : Array DictEntry} {n : Nat} {tab : DTab}
end
abbrev AlMT : Type := AlM × List (Option (List (Option (Str × Int))))
def obsMT (ck : PySem.W.Frag → Bool) (fn : List DefM) (ts : List He.Tab) (K : PySem.W.Frag) : AlMT := (obsM ck fn K, ts.map fun t => He.dicW K (t.1 K))
def valMT (fn : List DefM) (ts : List He.Tab) (w : World) : AlMT := (valM fn, ts.map fun t => some (He.keysIn w.params t.2))
def SaysMT (ck : PySem.W.Frag → Bool) (fn : List DefM) (ts : List He.Tab) (w : World) (K : PySem.W.Frag) : Prop := obsMT ck fn ts K = valMT fn ts w
section
variable {ck : PySem.W.Frag → Bool} {fn : List DefM} {ts : List He.Tab} {w : World} {K : PySem.W.Frag}
theorem SaysMT.m (c : SaysMT ck fn ts w K) : SaysM ck fn K := congrArg (fun z : AlMT => z.1) c
end
end Mir

namespace Mir
open PySem PySem.Spec L2 PySem.Builtin PySem.Builtin.ObjectAttr
abbrev bmV : List Value := [.type "ValueError", .type "Exception", .type "BaseException", .type "object"]
abbrev bmL : List Value := [.type "LookupError", .type "Exception", .type "BaseException", .type "object"]
abbrev bmA : List Value := [.type "ArithmeticError", .type "Exception", .type "BaseException", .type "object"]
section
variable {prog : Program} {w : World} {A : Around} {E : Value → Shared → Prop} {R : Result → Shared → Prop} {hp : Heap} {g : Array GenState} {d : Drawn} {t : Nat} {os : OsState}
end
section
variable {X : Cx} {pins : List (Addr × Obj)} {σ : St} {H : Hp} {s : Shared} {a C dx : Addr} {f : Str} {y : V} {u : Value} {fs : List (Str × V)} {Q : Unit → Shared → Prop} {E : Value → Shared → Prop} {A : Around}
end
section
variable {X : Cx} {o e : Expr} {es : List Expr} {to te : TE} {ta : TA} {f : Str} {p p' p1 p2 pos : Pos}
end
end Mir

namespace Mir
open PySem L2
abbrev Sb := List (Str × Str × Bool)
theorem Env.len {K : PySem.W.Frag} {io : Io} {F : Hp} : ∀ {ρ : En} {σ : L2.St}, Mir.Env K io F ρ σ → σ.length = ρ.length
  | [], σ, h => by
    have h : σ = [] := h
    rw [h]
    rfl
  | d :: ρ, σ, h => by
    obtain ⟨o, r, e, _, t⟩ := h
    rw [e, List.length_cons, List.length_cons, Env.len t]
end Mir

namespace Mir
open PySem L2
def oexB (K : PySem.W.Frag) (C : Addr) : Bool := ((PySem.W.excInitIn K C bmV "ValueError.__new__" && PySem.W.excOver K C bmV) || ((PySem.W.excInitIn K C bmL "LookupError.__new__" && PySem.W.excOver K C bmL) || (PySem.W.excInitIn K C bmA "ArithmeticError.__new__" && PySem.W.excOver K C bmA))) &&
  ((match PySem.W.clsIn K C with
    | some cd => cd.hasDict
    | none => false) && (He.eqO (PySem.W.findIn K (.ref C) "__setattr__") (some (some (.builtin "object.__setattr__"))) && (decide (PySem.W.subIn K (.ref C) (.type "BaseException") = some true) && (decide (PySem.W.typeIn K (.ref C) = some (.type "type")) && PySem.W.keepIn K (.ref C)))))
def excB (K : PySem.W.Frag) (D : Addr) : Bool := xfB K D && (He.eqO (PySem.W.findIn K (.ref D) "__class__") (some (some (.builtin "object.__class__"))) && (He.eqO (PySem.W.specialIn K (.builtin "object.__class__") "__get__") (some (some (.builtin "getset_descriptor.__get__"))) &&
  (decide (PySem.W.takesIn K (.builtin "object.__class__") = some true) && decide (PySem.W.mroIn K D (.type "object") = some true))))
def exkB (K : PySem.W.Frag) (c : Str) : Bool := oexB K (He.ga K c) && (xfB K (He.ga K c) && excB K (He.ga K c))
def exiB (K : PySem.W.Frag) (c : Str) : Bool := He.eqO (PySem.W.findIn K (.ref (He.ga K c)) "__init__") (some (some (.ref (He.ma K (He.ga K c) "__init__")))) && decide (PySem.W.typeIn K (.ref (He.ma K (He.ga K c) "__init__")) = some (.type "function"))
def exnB (K : PySem.W.Frag) (c f : Str) : Bool := He.eqO (PySem.W.findIn K (.ref (He.ga K c)) f) (some none)
end Mir

namespace Mir
open PySem L2
def LotsR (K : PySem.W.Frag) (F H : Hp) (Ok : Addr → Prop) (m : Nat) : List P → List (List P) → List (NestedKey × Addr × V) → Prop
  | [], [], [] => True
  | kk :: ks, l :: ls, e :: es => nkOf kk = some e.1 ∧ Rep K F kk (.ref e.2.1) ∧ (∃ b vs, e.2.2 = .ref b ∧ H b = some (.lst vs) ∧ RepL K F l vs ∧ Ok b ∧ l.length ≤ m) ∧ LotsR K F H Ok m ks ls es
  | _, _, _ => False
section
variable {K : PySem.W.Frag} {F F' H H' : Hp} {Ok Ok' : Addr → Prop} {m m' : Nat}
theorem LotsR.mono (hF : Same F F') (hH : ∀ b o, Ok b → H b = some o → H' b = some o) (hO : ∀ b o, Ok b → H b = some o → Ok' b) (hm : m ≤ m') : ∀ {ks : List P} {ls : List (List P)} {es : List (NestedKey × Addr × V)}, LotsR K F H Ok m ks ls es → LotsR K F' H' Ok' m' ks ls es
  | [], [], [], _ => trivial
  | kk :: ks, l :: ls, e :: es, ⟨h1, h2, ⟨b, vs, e1, h3, h4, h5, h6⟩, h7⟩ => ⟨h1, Rep.mono hF h2, ⟨b, vs, e1, hH _ _ h5 h3, RepL.mono hF h4, hO _ _ h5 h3, Nat.le_trans h6 hm⟩, LotsR.mono hF hH hO hm h7⟩
  | [], [], _ :: _, h => h.elim
  | [], _ :: _, _, h => h.elim
  | _ :: _, [], _, h => h.elim
  | _ :: _, _ :: _, [], h => h.elim
theorem LotsR.keys : ∀ {ks : List P} {ls : List (List P)} {es : List (NestedKey × Addr × V)}, LotsR K F H Ok m ks ls es → nkL ks = some (es.map (·.1)) ∧ RepL K F ks (es.map fun e => .ref e.2.1) ∧ ks.length = es.length
  | [], [], [], _ => ⟨rfl, .nil, rfl⟩
  | kk :: ks, l :: ls, e :: es, ⟨h1, h2, _, h7⟩ => by
    obtain ⟨a, b, c⟩ := LotsR.keys h7
    refine ⟨?_, .cons h2 b, by rw [List.length_cons, List.length_cons, c]⟩
    show (match nkOf kk, nkL ks with
      | some k, some ks => some (k :: ks)
      | _, _ => none) = _
    rw [h1, a]
    rfl
  | [], [], _ :: _, h => h.elim
  | [], _ :: _, _, h => h.elim
  | _ :: _, [], _, h => h.elim
  | _ :: _, _ :: _, [], h => h.elim
end
section
variable {K : PySem.W.Frag} {io io1 : Io} {F F1 H H1 : Hp} {S : Sto}
end
end Mir

namespace Mir
open PySem L2
def dfB (K : PySem.W.Frag) (dV : Value) (ds : List P) : Bool := match dV with
  | .ref T => (match K.lookup T with
    | some ⟨_, _, .seq its _, _⟩ => repKs K ds its.toList
    | _ => false)
  | _ => false
def ParD (K : PySem.W.Frag) (fd : FuncData) (params : Arguments) (ds : List P) : Prop := ∃ (x qual : Str) (body : List Stmt) (scope : Scope) (T : Addr) (o : Obj) (its : List Value) (n : Nat) (kV doc pm : Value) (an : Option Addr) (cdv ct : Value) (vs : List V),
  fd = PySem.W.fnOf x qual params body scope (.ref T) kV doc pm an cdv ct ∧ K.lookup T = some o ∧ o.data = .seq its.toArray n ∧ Vals vs its ∧ ∀ F, RepL K F ds vs
structure DefMD where
  d : DefM
  ds : List P
def DefMD.ok (K : PySem.W.Frag) (q : DefMD) : Bool := PySem.W.keepIn K (.ref (q.d.ad K)) && ((match K.lookup (q.d.ad K) with
  | some ⟨_, _, .func fd, _⟩ => PySem.W.codeIn K fd.code q.d.qual && dfB K fd.defaults q.ds
  | _ => false) && !q.ds.isEmpty)
structure GFD (Pg : Program) (w : World) (K : PySem.W.Frag) (mg : Str → Option Value) (base : Heap) (x : Str) (params : Arguments) (ps : List Str) (ds : List P) (k : Nat) (m : MF) : Prop where
  gl : mg x = some (.ref (He.ga K x))
  kp : PySem.W.keepIn K (.ref (He.ga K x)) = true
  fn : ∃ fd, FnG Pg w K mg base k (He.ga K x) fd ps (spM K m) ∧ ParD K fd params ds
def KwD (params : Arguments) (ps ks : List Str) (n nd : Nat) (pm : List Nat) : Prop := ∀ (x qual : Str) (body : List Stmt) (scope : Scope) (T : Addr) (kV doc pmv : Value) (an : Option Addr) (cdv ct : Value) (us ws its : List Value), us.length = n → ws.length = ks.length → its.length = nd →
  ∃ g, bindArgs (PySem.W.fnOf x qual params body scope (.ref T) kV doc pmv an cdv ct) ⟨us, ks.zip ws⟩ = seqItems? (.ref T) >>= g ∧ g (some its.toArray) = pure (ps.zip (permL .none pm (us ++ ws ++ its)))
section
variable {X : Cx} {W : WX} {e : Expr} {es : List Expr} {mas mks : MA} {x : Str} {p pos : Pos} {params : Arguments} {ps ks : List Str} {ds : List P} {k j n : Nat} {m : MF} {kws : List Keyword} {pm : List Nat}
end
end Mir

namespace Rw
open PySem PySem.Spec PyProof.Rows L2 Mir
section
variable {X : Cx}
theorem PAT.of {es : List Expr} {t : TA} (h : PA X es t) : PAT X es t := fun pos pins s σ H Q _ I q => h.run pos pins s σ H Q I q
end
end Rw
namespace Mir
open PySem L2
section
variable {X : Cx} {W : WX} {iter : Expr} {it : MI} {a b k : Str} {ia ib ik n0 : Nat} {p1 p2 p3 p4 p5 p6 tpos apos cpos pos fpos : Pos}
end
section
variable {X : Cx} {W : WX} {es : List Expr} {mas : MA} {rest : List Stmt} {mrest : MS}
end
end Mir

namespace Rw
open PySem PySem.Spec PyProof.Rows
section
variable {M : Model} {A : Around} {E : Value → Shared → Prop} {s₀ s : Shared} {m cm : Str → Option Value} {env : PySem.Env}
end
end Rw
namespace Mir
open PySem L2
def OSsT (X : Cx) (W : WX) (st : List Stmt) (m : MS) : Prop := ∃ t, PSsT X st t ∧ ∀ (ρ : En) (S : Sto) (io : Io) (F : Hp) (σ : St) (H : Hp) (D : Ends), Sta X.K io F S H → Env X.K io F ρ σ →
  RS X.K (m ρ S) io F H D W → t D σ H
section
variable {P : Program} {w : World} {K : PySem.W.Frag} {mg : Str → Option Value} {base : Heap} {x qual : Str} {params : Arguments} {body : List Stmt} {scope : Scope} {dvs : List V} {kws : List (Str × V)} {f : Addr} {fd : FuncData} {N ps : List Str} {k nl : Nat} {m : MS}
end
section
variable {X : Cx} {W : WX} {es : List Expr} {mas : MA} {rest : List Stmt} {mrest : MS}
end
end Mir

namespace Mir
open PySem L2
def FVs (X : Cx) (ps ks : List Str) (ds : List P) (n : Nat) (pm : List Nat) (j : Nat) : List (Str × MF) → Prop
  | [] => True
  | q :: r => (∃ params k, k ≤ j ∧ GFD X.prog X.w X.K X.mg X.base q.1 params ps ds k q.2 ∧ KwD params ps ks n ds.length pm) ∧ FVs X ps ks ds n pm j r
theorem FVs.at {X : Cx} {ps ks : List Str} {ds : List P} {n : Nat} {pm : List Nat} {j : Nat} {g : Str} {m : MF} : ∀ {tb : List (Str × MF)}, FVs X ps ks ds n pm j tb → tb.lookup g = some m → ∃ params k, k ≤ j ∧ GFD X.prog X.w X.K X.mg X.base g params ps ds k m ∧ KwD params ps ks n ds.length pm
  | [], _, e => by cases e
  | (g', m') :: r, h, e => by
    rw [List.lookup_cons] at e
    by_cases hg : g = g'
    · subst hg
      rw [beq_self_eq_true] at e
      cases e
      exact h.1
    · rw [beq_eq_false_iff_ne.mpr hg] at e
      exact FVs.at h.2 e
section
variable {X : Cx} {W : WX} {e : Expr} {es : List Expr} {mas mks : MA} {x : Str} {p pos : Pos} {ps ks : List Str} {ds : List P} {j n i : Nat} {tb : List (Str × MF)} {kws : List Keyword} {pm : List Nat}
end
end Mir

namespace Mir
open PySem PySem.Spec L2 PyProof.Rows
def xc0B (K : PySem.W.Frag) (c : Str) : Bool := (PySem.W.excIn K (He.ga K c) bmV "ValueError.__new__" || (PySem.W.excIn K (He.ga K c) bmL "LookupError.__new__" || PySem.W.excIn K (He.ga K c) bmA "ArithmeticError.__new__")) &&
  (decide (PySem.W.subIn K (.ref (He.ga K c)) (.type "BaseException") = some true) && (decide (PySem.W.typeIn K (.ref (He.ga K c)) = some (.type "type")) && PySem.W.keepIn K (.ref (He.ga K c))))
section
variable {X : Cx} {C : Addr} {bmB : List Value} {B newId initId : String}
end
section
variable {X : Cx} {W : WX} {a : Expr} {ma : ME} {pos : Pos}
end
end Mir

namespace Mir
open PySem L2
def LotsK (K : PySem.W.Frag) (F H : Hp) (Ok : Addr → Prop) (m : Nat) : List P → List (List P) → List (Key × V) → Prop
  | [], [], [] => True
  | kk :: ks, l :: ls, e :: es => kOf kk = some e.1 ∧ (∃ b vs, e.2 = .ref b ∧ H b = some (.lst vs) ∧ RepL K F l vs ∧ Ok b ∧ l.length ≤ m) ∧ LotsK K F H Ok m ks ls es
  | _, _, _ => False
section
variable {K : PySem.W.Frag} {F F' H H' : Hp} {Ok Ok' : Addr → Prop} {m m' : Nat}
theorem LotsK.mono (hF : Same F F') (hH : ∀ b o, Ok b → H b = some o → H' b = some o) (hO : ∀ b o, Ok b → H b = some o → Ok' b) (hm : m ≤ m') : ∀ {ks : List P} {ls : List (List P)} {es : List (Key × V)}, LotsK K F H Ok m ks ls es → LotsK K F' H' Ok' m' ks ls es
  | [], [], [], _ => trivial
  | kk :: ks, l :: ls, e :: es, ⟨h1, ⟨b, vs, e1, h3, h4, h5, h6⟩, h7⟩ => ⟨h1, ⟨b, vs, e1, hH _ _ h5 h3, RepL.mono hF h4, hO _ _ h5 h3, Nat.le_trans h6 hm⟩, LotsK.mono hF hH hO hm h7⟩
  | [], [], _ :: _, h => h.elim
  | [], _ :: _, _, h => h.elim
  | _ :: _, [], _, h => h.elim
  | _ :: _, _ :: _, [], h => h.elim
theorem LotsK.keys : ∀ {ks : List P} {ls : List (List P)} {es : List (Key × V)}, LotsK K F H Ok m ks ls es → RepL K F ks (es.map fun q => kV q.1) ∧ ks.length = es.length
  | [], [], [], _ => ⟨.nil, rfl⟩
  | kk :: ks, l :: ls, e :: es, ⟨h1, _, h7⟩ => by
    obtain ⟨b, c⟩ := LotsK.keys h7
    exact ⟨.cons (kOf_rep h1) b, by rw [List.length_cons, List.length_cons, c]⟩
  | [], [], _ :: _, h => h.elim
  | [], _ :: _, _, h => h.elim
  | _ :: _, [], _, h => h.elim
  | _ :: _, _ :: _, [], h => h.elim
end
section
variable {K : PySem.W.Frag} {io io1 : Io} {F F1 H H1 : Hp} {S : Sto}
end
end Mir

namespace Mir
open PySem L2
def OST (X : Cx) (W : WX) (st : Stmt) (m : MS) : Prop := ∃ t, PST X st t ∧ ∀ (ρ : En) (S : Sto) (io : Io) (F : Hp) (σ : St) (H : Hp) (D : Ends), Sta X.K io F S H → Env X.K io F ρ σ →
  RS X.K (m ρ S) io F H D W → t D σ H
section
variable {X : Cx} {W : WX} {st : Stmt} {rest : List Stmt} {m m2 : MS} {e c : Expr} {ma : ME} {mt : MT} {pos : Pos}
theorem OST.of (h : OS X W st m) : OST X W st m := by
  obtain ⟨t, p, h⟩ := h
  exact ⟨_, PST.of p, h⟩
theorem OSsT.of (h : OSs X W rest m) : OSsT X W rest m := by
  obtain ⟨t, p, h⟩ := h
  exact ⟨_, PSsT.of p, h⟩
end
section
variable {X : Cx} {W : WX} {o n : Expr} {mo mn : ME} {j0 j1 : Nat} {c0 c1 c2 apos pos p9 : Pos}
end
end Mir

namespace PySem
namespace HandSPX
open Builtin Builtin.ObjectAttr
section
variable {M : Model} {A : Around} {E : Value → Shared → Prop} {h : Heap} {g : Array GenState} {d : Drawn} {t : Nat} {os : OsState}
variable {nm q : Str} {C N : Addr} {bs bm bmB : List Value} {hdct : Bool} {sn : List Str} {sub : List Value} {ab : Bool} {col : Option Bool} {dd : Option Addr} {k0 k1 k2 k3 k5 : Option Value} {B newId initId : String}
end
section
variable {prog : Program} {w : World} {A : Around} {E : Value → Shared → Prop} {R : Result → Shared → Prop} {h : Heap} {g : Array GenState} {d : Drawn} {t : Nat} {os : OsState}
variable {nm q : Str} {C N : Addr} {bs bm bmB : List Value} {hdct : Bool} {sn : List Str} {sub : List Value} {ab : Bool} {col : Option Bool} {dd : Option Addr} {k0 k1 k2 k3 k5 : Option Value} {B newId initId : String}
end
end HandSPX
end PySem
namespace Mir
open PySem PySem.Spec L2
section
variable {X : Cx} {W : WX} {e : Expr} {es : List Expr} {ta : TA} {p pos : Pos} {params : Arguments} {ps ks : List Str} {k j : Nat} {sp : Sp} {c : Str}
end
section
variable {K : PySem.W.Frag} {io : Io} {F H : Hp} {S : Sto}
end
section
variable {X : Cx} {W : WX} {mas mks : MA} {p pos : Pos} {params : Arguments} {ps ks : List Str} {k j : Nat} {c f g : Str} {e e2 : Expr} {kws : List Keyword}
end
def errlB (K : PySem.W.Frag) (cs : List Str) : Bool := cs.all fun c => excB K (He.ga K c)
def errfB (K : PySem.W.Frag) (cs : List Str) (f : Str) : Bool := cs.all fun c => excB K (He.ga K c) && exnB K c f
section
variable {X : Cx} {W : WX} {e : Expr} {m : ME} {f : Str} {cs : List Str} {pos : Pos}
end
def ktbB (K : PySem.W.Frag) (T : List (Str × String × Bool)) : Bool := T.all fun q => decide (PySem.W.kitOne K (.ref (He.ga K q.1)) (.type q.2.1) = some q.2.2)
def ktoB (K : PySem.W.Frag) (T : Sb) : Bool := T.all fun q => decide (PySem.W.kitOne K (.ref (He.ga K q.1)) (.ref (He.ga K q.2.1)) = some q.2.2)
section
variable {X : Cx} {W : WX} {a b : Expr} {ma mb : ME} {cs : List Str} {T : Sb} {T2 : List (Str × String × Bool)} {pos p : Pos}
end
end Mir

namespace Law
open PySem PySem.Spec PyProof.Rows L2 Mir
def isiCs : List Str := []
def ecs : List Str := ["Alone", "Broken", "InUse", "InvalidCommand", "InvalidIndex", "InvalidKind", "InvalidLetter", "InvalidName", "InvalidNumber", "InvalidPremises", "InvalidPromise", "InvalidSet", "InvalidSets", "InvalidText", "InvalidWord", "NoAnswer", "NotASpace", "NotATerm", "NothingToUndo", "Taken", "TooLong", "TooMany", "UnknownName", "WrongName", "WrongValue"]
def exO : Sb := ([("Alone", "Alone", true), ("Alone", "Broken", false), ("Alone", "InUse", false), ("Alone", "InvalidCommand", false), ("Alone", "InvalidIndex", false), ("Alone", "InvalidKind", false), ("Alone", "InvalidLetter", false), ("Alone", "InvalidName", false), ("Alone", "InvalidNumber", false), ("Alone", "InvalidPremises", false), ("Alone", "InvalidPromise", false), ("Alone", "InvalidSet", false), ("Alone", "InvalidSets", false), ("Alone", "InvalidText", false), ("Alone", "InvalidWord", false), ("Alone", "NoAnswer", true), ("Alone", "NotASpace", false), ("Alone", "NotATerm", false), ("Alone", "NothingToUndo", false), ("Alone", "Taken", false), ("Alone", "TooLong", false), ("Alone", "TooMany", false), ("Alone", "UnknownName", false), ("Alone", "WrongName", false), ("Alone", "WrongValue", false), ("Broken", "Alone", false), ("Broken", "Broken", true), ("Broken", "InUse", false), ("Broken", "InvalidCommand", false), ("Broken", "InvalidIndex", false)] : Sb) ++ ([("Broken", "InvalidKind", false), ("Broken", "InvalidLetter", false), ("Broken", "InvalidName", false), ("Broken", "InvalidNumber", false), ("Broken", "InvalidPremises", false), ("Broken", "InvalidPromise", false), ("Broken", "InvalidSet", false), ("Broken", "InvalidSets", false), ("Broken", "InvalidText", false), ("Broken", "InvalidWord", false), ("Broken", "NoAnswer", true), ("Broken", "NotASpace", false), ("Broken", "NotATerm", false), ("Broken", "NothingToUndo", false), ("Broken", "Taken", false), ("Broken", "TooLong", false), ("Broken", "TooMany", false), ("Broken", "UnknownName", false), ("Broken", "WrongName", false), ("Broken", "WrongValue", false), ("InUse", "Alone", false), ("InUse", "Broken", false), ("InUse", "InUse", true), ("InUse", "InvalidCommand", false), ("InUse", "InvalidIndex", false), ("InUse", "InvalidKind", false), ("InUse", "InvalidLetter", false), ("InUse", "InvalidName", false), ("InUse", "InvalidNumber", false), ("InUse", "InvalidPremises", false)] : Sb) ++ ([("InUse", "InvalidPromise", false), ("InUse", "InvalidSet", false), ("InUse", "InvalidSets", false), ("InUse", "InvalidText", false), ("InUse", "InvalidWord", false), ("InUse", "NoAnswer", false), ("InUse", "NotASpace", false), ("InUse", "NotATerm", false), ("InUse", "NothingToUndo", false), ("InUse", "Taken", false), ("InUse", "TooLong", false), ("InUse", "TooMany", false), ("InUse", "UnknownName", false), ("InUse", "WrongName", true), ("InUse", "WrongValue", false), ("InvalidCommand", "Alone", false), ("InvalidCommand", "Broken", false), ("InvalidCommand", "InUse", false), ("InvalidCommand", "InvalidCommand", true), ("InvalidCommand", "InvalidIndex", false), ("InvalidCommand", "InvalidKind", false), ("InvalidCommand", "InvalidLetter", false), ("InvalidCommand", "InvalidName", false), ("InvalidCommand", "InvalidNumber", false), ("InvalidCommand", "InvalidPremises", false), ("InvalidCommand", "InvalidPromise", false), ("InvalidCommand", "InvalidSet", false), ("InvalidCommand", "InvalidSets", false), ("InvalidCommand", "InvalidText", false), ("InvalidCommand", "InvalidWord", false)] : Sb) ++ ([("InvalidCommand", "NoAnswer", false), ("InvalidCommand", "NotASpace", false), ("InvalidCommand", "NotATerm", false), ("InvalidCommand", "NothingToUndo", false), ("InvalidCommand", "Taken", false), ("InvalidCommand", "TooLong", false), ("InvalidCommand", "TooMany", false), ("InvalidCommand", "UnknownName", false), ("InvalidCommand", "WrongName", false), ("InvalidCommand", "WrongValue", true), ("InvalidIndex", "Alone", false), ("InvalidIndex", "Broken", false), ("InvalidIndex", "InUse", false), ("InvalidIndex", "InvalidCommand", false), ("InvalidIndex", "InvalidIndex", true), ("InvalidIndex", "InvalidKind", false), ("InvalidIndex", "InvalidLetter", false), ("InvalidIndex", "InvalidName", false), ("InvalidIndex", "InvalidNumber", false), ("InvalidIndex", "InvalidPremises", false), ("InvalidIndex", "InvalidPromise", false), ("InvalidIndex", "InvalidSet", false), ("InvalidIndex", "InvalidSets", false), ("InvalidIndex", "InvalidText", false), ("InvalidIndex", "InvalidWord", false), ("InvalidIndex", "NoAnswer", false), ("InvalidIndex", "NotASpace", false), ("InvalidIndex", "NotATerm", false), ("InvalidIndex", "NothingToUndo", false), ("InvalidIndex", "Taken", false)] : Sb) ++ ([("InvalidIndex", "TooLong", false), ("InvalidIndex", "TooMany", false), ("InvalidIndex", "UnknownName", false), ("InvalidIndex", "WrongName", false), ("InvalidIndex", "WrongValue", true), ("InvalidKind", "Alone", false), ("InvalidKind", "Broken", false), ("InvalidKind", "InUse", false), ("InvalidKind", "InvalidCommand", false), ("InvalidKind", "InvalidIndex", false), ("InvalidKind", "InvalidKind", true), ("InvalidKind", "InvalidLetter", false), ("InvalidKind", "InvalidName", false), ("InvalidKind", "InvalidNumber", false), ("InvalidKind", "InvalidPremises", false), ("InvalidKind", "InvalidPromise", false), ("InvalidKind", "InvalidSet", false), ("InvalidKind", "InvalidSets", false), ("InvalidKind", "InvalidText", false), ("InvalidKind", "InvalidWord", false), ("InvalidKind", "NoAnswer", false), ("InvalidKind", "NotASpace", false), ("InvalidKind", "NotATerm", false), ("InvalidKind", "NothingToUndo", false), ("InvalidKind", "Taken", false), ("InvalidKind", "TooLong", false), ("InvalidKind", "TooMany", false), ("InvalidKind", "UnknownName", false), ("InvalidKind", "WrongName", false), ("InvalidKind", "WrongValue", true)] : Sb) ++ ([("InvalidLetter", "Alone", false), ("InvalidLetter", "Broken", false), ("InvalidLetter", "InUse", false), ("InvalidLetter", "InvalidCommand", false), ("InvalidLetter", "InvalidIndex", false), ("InvalidLetter", "InvalidKind", false), ("InvalidLetter", "InvalidLetter", true), ("InvalidLetter", "InvalidName", false), ("InvalidLetter", "InvalidNumber", false), ("InvalidLetter", "InvalidPremises", false), ("InvalidLetter", "InvalidPromise", false), ("InvalidLetter", "InvalidSet", false), ("InvalidLetter", "InvalidSets", false), ("InvalidLetter", "InvalidText", false), ("InvalidLetter", "InvalidWord", false), ("InvalidLetter", "NoAnswer", false), ("InvalidLetter", "NotASpace", false), ("InvalidLetter", "NotATerm", false), ("InvalidLetter", "NothingToUndo", false), ("InvalidLetter", "Taken", false), ("InvalidLetter", "TooLong", false), ("InvalidLetter", "TooMany", false), ("InvalidLetter", "UnknownName", false), ("InvalidLetter", "WrongName", false), ("InvalidLetter", "WrongValue", true), ("InvalidName", "Alone", false), ("InvalidName", "Broken", false), ("InvalidName", "InUse", false), ("InvalidName", "InvalidCommand", false), ("InvalidName", "InvalidIndex", false)] : Sb) ++ ([("InvalidName", "InvalidKind", false), ("InvalidName", "InvalidLetter", false), ("InvalidName", "InvalidName", true), ("InvalidName", "InvalidNumber", false), ("InvalidName", "InvalidPremises", false), ("InvalidName", "InvalidPromise", false), ("InvalidName", "InvalidSet", false), ("InvalidName", "InvalidSets", false), ("InvalidName", "InvalidText", false), ("InvalidName", "InvalidWord", false), ("InvalidName", "NoAnswer", false), ("InvalidName", "NotASpace", false), ("InvalidName", "NotATerm", false), ("InvalidName", "NothingToUndo", false), ("InvalidName", "Taken", false), ("InvalidName", "TooLong", false), ("InvalidName", "TooMany", false), ("InvalidName", "UnknownName", false), ("InvalidName", "WrongName", false), ("InvalidName", "WrongValue", true), ("InvalidNumber", "Alone", false), ("InvalidNumber", "Broken", false), ("InvalidNumber", "InUse", false), ("InvalidNumber", "InvalidCommand", false), ("InvalidNumber", "InvalidIndex", false), ("InvalidNumber", "InvalidKind", false), ("InvalidNumber", "InvalidLetter", false), ("InvalidNumber", "InvalidName", false), ("InvalidNumber", "InvalidNumber", true), ("InvalidNumber", "InvalidPremises", false)] : Sb) ++ ([("InvalidNumber", "InvalidPromise", false), ("InvalidNumber", "InvalidSet", false), ("InvalidNumber", "InvalidSets", false), ("InvalidNumber", "InvalidText", false), ("InvalidNumber", "InvalidWord", false), ("InvalidNumber", "NoAnswer", false), ("InvalidNumber", "NotASpace", false), ("InvalidNumber", "NotATerm", false), ("InvalidNumber", "NothingToUndo", false), ("InvalidNumber", "Taken", false), ("InvalidNumber", "TooLong", false), ("InvalidNumber", "TooMany", false), ("InvalidNumber", "UnknownName", false), ("InvalidNumber", "WrongName", false), ("InvalidNumber", "WrongValue", true), ("InvalidPremises", "Alone", false), ("InvalidPremises", "Broken", false), ("InvalidPremises", "InUse", false), ("InvalidPremises", "InvalidCommand", false), ("InvalidPremises", "InvalidIndex", false), ("InvalidPremises", "InvalidKind", false), ("InvalidPremises", "InvalidLetter", false), ("InvalidPremises", "InvalidName", false), ("InvalidPremises", "InvalidNumber", false), ("InvalidPremises", "InvalidPremises", true), ("InvalidPremises", "InvalidPromise", false), ("InvalidPremises", "InvalidSet", false), ("InvalidPremises", "InvalidSets", false), ("InvalidPremises", "InvalidText", false), ("InvalidPremises", "InvalidWord", false)] : Sb) ++ ([("InvalidPremises", "NoAnswer", false), ("InvalidPremises", "NotASpace", false), ("InvalidPremises", "NotATerm", false), ("InvalidPremises", "NothingToUndo", false), ("InvalidPremises", "Taken", false), ("InvalidPremises", "TooLong", false), ("InvalidPremises", "TooMany", false), ("InvalidPremises", "UnknownName", false), ("InvalidPremises", "WrongName", false), ("InvalidPremises", "WrongValue", true), ("InvalidPromise", "Alone", false), ("InvalidPromise", "Broken", false), ("InvalidPromise", "InUse", false), ("InvalidPromise", "InvalidCommand", false), ("InvalidPromise", "InvalidIndex", false), ("InvalidPromise", "InvalidKind", false), ("InvalidPromise", "InvalidLetter", false), ("InvalidPromise", "InvalidName", false), ("InvalidPromise", "InvalidNumber", false), ("InvalidPromise", "InvalidPremises", false), ("InvalidPromise", "InvalidPromise", true), ("InvalidPromise", "InvalidSet", false), ("InvalidPromise", "InvalidSets", false), ("InvalidPromise", "InvalidText", false), ("InvalidPromise", "InvalidWord", false), ("InvalidPromise", "NoAnswer", false), ("InvalidPromise", "NotASpace", false), ("InvalidPromise", "NotATerm", false), ("InvalidPromise", "NothingToUndo", false), ("InvalidPromise", "Taken", false)] : Sb) ++ ([("InvalidPromise", "TooLong", false), ("InvalidPromise", "TooMany", false), ("InvalidPromise", "UnknownName", false), ("InvalidPromise", "WrongName", false), ("InvalidPromise", "WrongValue", true), ("InvalidSet", "Alone", false), ("InvalidSet", "Broken", false), ("InvalidSet", "InUse", false), ("InvalidSet", "InvalidCommand", false), ("InvalidSet", "InvalidIndex", false), ("InvalidSet", "InvalidKind", false), ("InvalidSet", "InvalidLetter", false), ("InvalidSet", "InvalidName", false), ("InvalidSet", "InvalidNumber", false), ("InvalidSet", "InvalidPremises", false), ("InvalidSet", "InvalidPromise", false), ("InvalidSet", "InvalidSet", true), ("InvalidSet", "InvalidSets", false), ("InvalidSet", "InvalidText", false), ("InvalidSet", "InvalidWord", false), ("InvalidSet", "NoAnswer", false), ("InvalidSet", "NotASpace", false), ("InvalidSet", "NotATerm", false), ("InvalidSet", "NothingToUndo", false), ("InvalidSet", "Taken", false), ("InvalidSet", "TooLong", false), ("InvalidSet", "TooMany", false), ("InvalidSet", "UnknownName", false), ("InvalidSet", "WrongName", false), ("InvalidSet", "WrongValue", true)] : Sb) ++ ([("InvalidSets", "Alone", false), ("InvalidSets", "Broken", false), ("InvalidSets", "InUse", false), ("InvalidSets", "InvalidCommand", false), ("InvalidSets", "InvalidIndex", false), ("InvalidSets", "InvalidKind", false), ("InvalidSets", "InvalidLetter", false), ("InvalidSets", "InvalidName", false), ("InvalidSets", "InvalidNumber", false), ("InvalidSets", "InvalidPremises", false), ("InvalidSets", "InvalidPromise", false), ("InvalidSets", "InvalidSet", false), ("InvalidSets", "InvalidSets", true), ("InvalidSets", "InvalidText", false), ("InvalidSets", "InvalidWord", false), ("InvalidSets", "NoAnswer", false), ("InvalidSets", "NotASpace", false), ("InvalidSets", "NotATerm", false), ("InvalidSets", "NothingToUndo", false), ("InvalidSets", "Taken", false), ("InvalidSets", "TooLong", false), ("InvalidSets", "TooMany", false), ("InvalidSets", "UnknownName", false), ("InvalidSets", "WrongName", false), ("InvalidSets", "WrongValue", true), ("InvalidText", "Alone", false), ("InvalidText", "Broken", false), ("InvalidText", "InUse", false), ("InvalidText", "InvalidCommand", false), ("InvalidText", "InvalidIndex", false)] : Sb) ++ ([("InvalidText", "InvalidKind", false), ("InvalidText", "InvalidLetter", false), ("InvalidText", "InvalidName", false), ("InvalidText", "InvalidNumber", false), ("InvalidText", "InvalidPremises", false), ("InvalidText", "InvalidPromise", false), ("InvalidText", "InvalidSet", false), ("InvalidText", "InvalidSets", false), ("InvalidText", "InvalidText", true), ("InvalidText", "InvalidWord", false), ("InvalidText", "NoAnswer", false), ("InvalidText", "NotASpace", false), ("InvalidText", "NotATerm", false), ("InvalidText", "NothingToUndo", false), ("InvalidText", "Taken", false), ("InvalidText", "TooLong", false), ("InvalidText", "TooMany", false), ("InvalidText", "UnknownName", false), ("InvalidText", "WrongName", false), ("InvalidText", "WrongValue", true), ("InvalidWord", "Alone", false), ("InvalidWord", "Broken", false), ("InvalidWord", "InUse", false), ("InvalidWord", "InvalidCommand", false), ("InvalidWord", "InvalidIndex", false), ("InvalidWord", "InvalidKind", false), ("InvalidWord", "InvalidLetter", false), ("InvalidWord", "InvalidName", false), ("InvalidWord", "InvalidNumber", false), ("InvalidWord", "InvalidPremises", false)] : Sb) ++ ([("InvalidWord", "InvalidPromise", false), ("InvalidWord", "InvalidSet", false), ("InvalidWord", "InvalidSets", false), ("InvalidWord", "InvalidText", false), ("InvalidWord", "InvalidWord", true), ("InvalidWord", "NoAnswer", false), ("InvalidWord", "NotASpace", false), ("InvalidWord", "NotATerm", false), ("InvalidWord", "NothingToUndo", false), ("InvalidWord", "Taken", false), ("InvalidWord", "TooLong", false), ("InvalidWord", "TooMany", false), ("InvalidWord", "UnknownName", false), ("InvalidWord", "WrongName", false), ("InvalidWord", "WrongValue", true), ("NoAnswer", "Alone", false), ("NoAnswer", "Broken", false), ("NoAnswer", "InUse", false), ("NoAnswer", "InvalidCommand", false), ("NoAnswer", "InvalidIndex", false), ("NoAnswer", "InvalidKind", false), ("NoAnswer", "InvalidLetter", false), ("NoAnswer", "InvalidName", false), ("NoAnswer", "InvalidNumber", false), ("NoAnswer", "InvalidPremises", false), ("NoAnswer", "InvalidPromise", false), ("NoAnswer", "InvalidSet", false), ("NoAnswer", "InvalidSets", false), ("NoAnswer", "InvalidText", false), ("NoAnswer", "InvalidWord", false)] : Sb) ++ ([("NoAnswer", "NoAnswer", true), ("NoAnswer", "NotASpace", false), ("NoAnswer", "NotATerm", false), ("NoAnswer", "NothingToUndo", false), ("NoAnswer", "Taken", false), ("NoAnswer", "TooLong", false), ("NoAnswer", "TooMany", false), ("NoAnswer", "UnknownName", false), ("NoAnswer", "WrongName", false), ("NoAnswer", "WrongValue", false), ("NotASpace", "Alone", false), ("NotASpace", "Broken", false), ("NotASpace", "InUse", false), ("NotASpace", "InvalidCommand", false), ("NotASpace", "InvalidIndex", false), ("NotASpace", "InvalidKind", false), ("NotASpace", "InvalidLetter", false), ("NotASpace", "InvalidName", false), ("NotASpace", "InvalidNumber", false), ("NotASpace", "InvalidPremises", false), ("NotASpace", "InvalidPromise", false), ("NotASpace", "InvalidSet", false), ("NotASpace", "InvalidSets", false), ("NotASpace", "InvalidText", false), ("NotASpace", "InvalidWord", false), ("NotASpace", "NoAnswer", false), ("NotASpace", "NotASpace", true), ("NotASpace", "NotATerm", false), ("NotASpace", "NothingToUndo", false), ("NotASpace", "Taken", false)] : Sb) ++ ([("NotASpace", "TooLong", false), ("NotASpace", "TooMany", false), ("NotASpace", "UnknownName", false), ("NotASpace", "WrongName", false), ("NotASpace", "WrongValue", true), ("NotATerm", "Alone", false), ("NotATerm", "Broken", false), ("NotATerm", "InUse", false), ("NotATerm", "InvalidCommand", false), ("NotATerm", "InvalidIndex", false), ("NotATerm", "InvalidKind", false), ("NotATerm", "InvalidLetter", false), ("NotATerm", "InvalidName", false), ("NotATerm", "InvalidNumber", false), ("NotATerm", "InvalidPremises", false), ("NotATerm", "InvalidPromise", false), ("NotATerm", "InvalidSet", false), ("NotATerm", "InvalidSets", false), ("NotATerm", "InvalidText", false), ("NotATerm", "InvalidWord", false), ("NotATerm", "NoAnswer", false), ("NotATerm", "NotASpace", false), ("NotATerm", "NotATerm", true), ("NotATerm", "NothingToUndo", false), ("NotATerm", "Taken", false), ("NotATerm", "TooLong", false), ("NotATerm", "TooMany", false), ("NotATerm", "UnknownName", false), ("NotATerm", "WrongName", false), ("NotATerm", "WrongValue", true)] : Sb) ++ ([("NothingToUndo", "Alone", false), ("NothingToUndo", "Broken", false), ("NothingToUndo", "InUse", false), ("NothingToUndo", "InvalidCommand", false), ("NothingToUndo", "InvalidIndex", false), ("NothingToUndo", "InvalidKind", false), ("NothingToUndo", "InvalidLetter", false), ("NothingToUndo", "InvalidName", false), ("NothingToUndo", "InvalidNumber", false), ("NothingToUndo", "InvalidPremises", false), ("NothingToUndo", "InvalidPromise", false), ("NothingToUndo", "InvalidSet", false), ("NothingToUndo", "InvalidSets", false), ("NothingToUndo", "InvalidText", false), ("NothingToUndo", "InvalidWord", false), ("NothingToUndo", "NoAnswer", true), ("NothingToUndo", "NotASpace", false), ("NothingToUndo", "NotATerm", false), ("NothingToUndo", "NothingToUndo", true), ("NothingToUndo", "Taken", false), ("NothingToUndo", "TooLong", false), ("NothingToUndo", "TooMany", false), ("NothingToUndo", "UnknownName", false), ("NothingToUndo", "WrongName", false), ("NothingToUndo", "WrongValue", false), ("Taken", "Alone", false), ("Taken", "Broken", false), ("Taken", "InUse", false), ("Taken", "InvalidCommand", false), ("Taken", "InvalidIndex", false)] : Sb) ++ ([("Taken", "InvalidKind", false), ("Taken", "InvalidLetter", false), ("Taken", "InvalidName", false), ("Taken", "InvalidNumber", false), ("Taken", "InvalidPremises", false), ("Taken", "InvalidPromise", false), ("Taken", "InvalidSet", false), ("Taken", "InvalidSets", false), ("Taken", "InvalidText", false), ("Taken", "InvalidWord", false), ("Taken", "NoAnswer", false), ("Taken", "NotASpace", false), ("Taken", "NotATerm", false), ("Taken", "NothingToUndo", false), ("Taken", "Taken", true), ("Taken", "TooLong", false), ("Taken", "TooMany", false), ("Taken", "UnknownName", false), ("Taken", "WrongName", true), ("Taken", "WrongValue", false), ("TooLong", "Alone", false), ("TooLong", "Broken", false), ("TooLong", "InUse", false), ("TooLong", "InvalidCommand", false), ("TooLong", "InvalidIndex", false), ("TooLong", "InvalidKind", false), ("TooLong", "InvalidLetter", false), ("TooLong", "InvalidName", false), ("TooLong", "InvalidNumber", false), ("TooLong", "InvalidPremises", false)] : Sb) ++ ([("TooLong", "InvalidPromise", false), ("TooLong", "InvalidSet", false), ("TooLong", "InvalidSets", false), ("TooLong", "InvalidText", false), ("TooLong", "InvalidWord", false), ("TooLong", "NoAnswer", true), ("TooLong", "NotASpace", false), ("TooLong", "NotATerm", false), ("TooLong", "NothingToUndo", false), ("TooLong", "Taken", false), ("TooLong", "TooLong", true), ("TooLong", "TooMany", false), ("TooLong", "UnknownName", false), ("TooLong", "WrongName", false), ("TooLong", "WrongValue", false), ("TooMany", "Alone", false), ("TooMany", "Broken", false), ("TooMany", "InUse", false), ("TooMany", "InvalidCommand", false), ("TooMany", "InvalidIndex", false), ("TooMany", "InvalidKind", false), ("TooMany", "InvalidLetter", false), ("TooMany", "InvalidName", false), ("TooMany", "InvalidNumber", false), ("TooMany", "InvalidPremises", false), ("TooMany", "InvalidPromise", false), ("TooMany", "InvalidSet", false), ("TooMany", "InvalidSets", false), ("TooMany", "InvalidText", false), ("TooMany", "InvalidWord", false)] : Sb) ++ ([("TooMany", "NoAnswer", true), ("TooMany", "NotASpace", false), ("TooMany", "NotATerm", false), ("TooMany", "NothingToUndo", false), ("TooMany", "Taken", false), ("TooMany", "TooLong", false), ("TooMany", "TooMany", true), ("TooMany", "UnknownName", false), ("TooMany", "WrongName", false), ("TooMany", "WrongValue", false), ("UnknownName", "Alone", false), ("UnknownName", "Broken", false), ("UnknownName", "InUse", false), ("UnknownName", "InvalidCommand", false), ("UnknownName", "InvalidIndex", false), ("UnknownName", "InvalidKind", false), ("UnknownName", "InvalidLetter", false), ("UnknownName", "InvalidName", false), ("UnknownName", "InvalidNumber", false), ("UnknownName", "InvalidPremises", false), ("UnknownName", "InvalidPromise", false), ("UnknownName", "InvalidSet", false), ("UnknownName", "InvalidSets", false), ("UnknownName", "InvalidText", false), ("UnknownName", "InvalidWord", false), ("UnknownName", "NoAnswer", false), ("UnknownName", "NotASpace", false), ("UnknownName", "NotATerm", false), ("UnknownName", "NothingToUndo", false), ("UnknownName", "Taken", false)] : Sb) ++ ([("UnknownName", "TooLong", false), ("UnknownName", "TooMany", false), ("UnknownName", "UnknownName", true), ("UnknownName", "WrongName", true), ("UnknownName", "WrongValue", false), ("WrongName", "Alone", false), ("WrongName", "Broken", false), ("WrongName", "InUse", false), ("WrongName", "InvalidCommand", false), ("WrongName", "InvalidIndex", false), ("WrongName", "InvalidKind", false), ("WrongName", "InvalidLetter", false), ("WrongName", "InvalidName", false), ("WrongName", "InvalidNumber", false), ("WrongName", "InvalidPremises", false), ("WrongName", "InvalidPromise", false), ("WrongName", "InvalidSet", false), ("WrongName", "InvalidSets", false), ("WrongName", "InvalidText", false), ("WrongName", "InvalidWord", false), ("WrongName", "NoAnswer", false), ("WrongName", "NotASpace", false), ("WrongName", "NotATerm", false), ("WrongName", "NothingToUndo", false), ("WrongName", "Taken", false), ("WrongName", "TooLong", false), ("WrongName", "TooMany", false), ("WrongName", "UnknownName", false), ("WrongName", "WrongName", true), ("WrongName", "WrongValue", false)] : Sb) ++ ([("WrongValue", "Alone", false), ("WrongValue", "Broken", false), ("WrongValue", "InUse", false), ("WrongValue", "InvalidCommand", false), ("WrongValue", "InvalidIndex", false), ("WrongValue", "InvalidKind", false), ("WrongValue", "InvalidLetter", false), ("WrongValue", "InvalidName", false), ("WrongValue", "InvalidNumber", false), ("WrongValue", "InvalidPremises", false), ("WrongValue", "InvalidPromise", false), ("WrongValue", "InvalidSet", false), ("WrongValue", "InvalidSets", false), ("WrongValue", "InvalidText", false), ("WrongValue", "InvalidWord", false), ("WrongValue", "NoAnswer", false), ("WrongValue", "NotASpace", false), ("WrongValue", "NotATerm", false), ("WrongValue", "NothingToUndo", false), ("WrongValue", "Taken", false), ("WrongValue", "TooLong", false), ("WrongValue", "TooMany", false), ("WrongValue", "UnknownName", false), ("WrongValue", "WrongName", false), ("WrongValue", "WrongValue", true)] : Sb)
def exB : List (Str × String × Bool) := ([("Alone", "ValueError", false), ("Alone", "LookupError", false), ("Alone", "ArithmeticError", true), ("Broken", "ValueError", false), ("Broken", "LookupError", false), ("Broken", "ArithmeticError", true), ("InUse", "ValueError", false), ("InUse", "LookupError", true), ("InUse", "ArithmeticError", false), ("InvalidCommand", "ValueError", true), ("InvalidCommand", "LookupError", false), ("InvalidCommand", "ArithmeticError", false), ("InvalidIndex", "ValueError", true), ("InvalidIndex", "LookupError", false), ("InvalidIndex", "ArithmeticError", false), ("InvalidKind", "ValueError", true), ("InvalidKind", "LookupError", false), ("InvalidKind", "ArithmeticError", false), ("InvalidLetter", "ValueError", true), ("InvalidLetter", "LookupError", false), ("InvalidLetter", "ArithmeticError", false), ("InvalidName", "ValueError", true), ("InvalidName", "LookupError", false), ("InvalidName", "ArithmeticError", false), ("InvalidNumber", "ValueError", true), ("InvalidNumber", "LookupError", false), ("InvalidNumber", "ArithmeticError", false), ("InvalidPremises", "ValueError", true), ("InvalidPremises", "LookupError", false), ("InvalidPremises", "ArithmeticError", false)] : List (Str × String × Bool)) ++ ([("InvalidPromise", "ValueError", true), ("InvalidPromise", "LookupError", false), ("InvalidPromise", "ArithmeticError", false), ("InvalidSet", "ValueError", true), ("InvalidSet", "LookupError", false), ("InvalidSet", "ArithmeticError", false), ("InvalidSets", "ValueError", true), ("InvalidSets", "LookupError", false), ("InvalidSets", "ArithmeticError", false), ("InvalidText", "ValueError", true), ("InvalidText", "LookupError", false), ("InvalidText", "ArithmeticError", false), ("InvalidWord", "ValueError", true), ("InvalidWord", "LookupError", false), ("InvalidWord", "ArithmeticError", false), ("NoAnswer", "ValueError", false), ("NoAnswer", "LookupError", false), ("NoAnswer", "ArithmeticError", true), ("NotASpace", "ValueError", true), ("NotASpace", "LookupError", false), ("NotASpace", "ArithmeticError", false), ("NotATerm", "ValueError", true), ("NotATerm", "LookupError", false), ("NotATerm", "ArithmeticError", false), ("NothingToUndo", "ValueError", false), ("NothingToUndo", "LookupError", false), ("NothingToUndo", "ArithmeticError", true), ("Taken", "ValueError", false), ("Taken", "LookupError", true), ("Taken", "ArithmeticError", false)] : List (Str × String × Bool)) ++ ([("TooLong", "ValueError", false), ("TooLong", "LookupError", false), ("TooLong", "ArithmeticError", true), ("TooMany", "ValueError", false), ("TooMany", "LookupError", false), ("TooMany", "ArithmeticError", true), ("UnknownName", "ValueError", false), ("UnknownName", "LookupError", true), ("UnknownName", "ArithmeticError", false), ("WrongName", "ValueError", false), ("WrongName", "LookupError", true), ("WrongName", "ArithmeticError", false), ("WrongValue", "ValueError", true), ("WrongValue", "LookupError", false), ("WrongValue", "ArithmeticError", false)] : List (Str × String × Bool))
def ef_given : List Str := ["InvalidCommand", "InvalidIndex", "InvalidKind", "InvalidLetter", "InvalidName", "InvalidNumber", "InvalidPromise", "InvalidSet", "InvalidText", "InvalidWord", "NotASpace", "NotATerm", "Taken", "UnknownName"]
def ef_index : List Str := ["Broken", "InUse", "InvalidPremises", "InvalidSets"]
def ef_limit : List Str := ["TooLong", "TooMany"]
def ef_shown : List Str := ["Broken"]
def top (i : Nat) : Stmt := PySem.Challenge.pw_closedinner_k01_errors_and_limits.main.body.getD i (.Pass ⟨0, 0, 0, 0⟩)
def inC (s : Stmt) (j : Nat) : Stmt := match s with
  | .ClassDef (body := b) .. => b.getD j (.Pass ⟨0, 0, 0, 0⟩)
  | _ => .Pass ⟨0, 0, 0, 0⟩
abbrev s__law_ladle : Stmt := top 35
abbrev s__law_pick : Stmt := top 36
abbrev s__law_first : Stmt := top 39
abbrev s__law_flags : Stmt := top 37
abbrev s__law_bases : Stmt := top 38
abbrev s__law_base_right : Stmt := top 40
abbrev s__law_right : Stmt := top 41
abbrev s__law_urn_of : Stmt := top 34
abbrev s_law : Stmt := top 42
abbrev s_InUse___init__ : Stmt := inC (top 19) 0
abbrev s_InvalidCommand___init__ : Stmt := inC (top 11) 0
abbrev s_InvalidIndex___init__ : Stmt := inC (top 9) 0
abbrev s_InvalidKind___init__ : Stmt := inC (top 3) 0
abbrev s_InvalidLetter___init__ : Stmt := inC (top 6) 0
abbrev s_InvalidName___init__ : Stmt := inC (top 8) 0
abbrev s_InvalidNumber___init__ : Stmt := inC (top 7) 0
abbrev s_InvalidPremises___init__ : Stmt := inC (top 14) 0
abbrev s_InvalidPromise___init__ : Stmt := inC (top 10) 0
abbrev s_InvalidSet___init__ : Stmt := inC (top 4) 0
abbrev s_InvalidSets___init__ : Stmt := inC (top 15) 0
abbrev s_InvalidText___init__ : Stmt := inC (top 2) 0
abbrev s_InvalidWord___init__ : Stmt := inC (top 5) 0
abbrev s_NotASpace___init__ : Stmt := inC (top 13) 0
abbrev s_NotATerm___init__ : Stmt := inC (top 12) 0
abbrev s_Taken___init__ : Stmt := inC (top 18) 0
abbrev s_TooLong___init__ : Stmt := inC (top 22) 0
abbrev s_TooMany___init__ : Stmt := inC (top 21) 0
abbrev s_UnknownName___init__ : Stmt := inC (top 17) 0
abbrev s_Broken___init__ : Stmt := inC (top 25) 0
def ck (K : PySem.W.Frag) : Bool := (He.Fa.free "ArithmeticError").ok K && ((He.Fa.free "LookupError").ok K && ((He.Fa.free "ValueError").ok K && ((He.Fa.free "abs").ok K && ((He.Fa.free "all").ok K && ((He.Fa.free "divmod").ok K && ((He.Fa.free "enumerate").ok K && ((He.Fa.free "int").ok K && ((He.Fa.free "isinstance").ok K && ((He.Fa.free "len").ok K && ((He.Fa.free "max").ok K && ((He.Fa.free "min").ok K && ((He.Fa.free "range").ok K && ((He.Fa.free "repr").ok K && (gloB K "MOST_LISTED" (.int 4) && (gloB K "MOST_POINTS" (.int 256) && (gloB K "MOST_PREMISES" (.int 4) && (gloB K "MOST_SIGNS" (.int 300) && (gloB K "MOST_TRIED" (.int 8) && (gloB K "MOST_WEIGHT" (.int 8) && (gloB K "MOST_WORD" (.int 40) && ((He.Fa.glo "Alone").ok K && ((He.Fa.glo "Broken").ok K && ((He.Fa.glo "InUse").ok K && ((He.Fa.glo "InvalidCommand").ok K && ((He.Fa.glo "InvalidIndex").ok K && ((He.Fa.glo "InvalidKind").ok K && ((He.Fa.glo "InvalidLetter").ok K && ((He.Fa.glo "InvalidName").ok K && ((He.Fa.glo "InvalidNumber").ok K && ((He.Fa.glo "InvalidPremises").ok K && ((He.Fa.glo "InvalidPromise").ok K && ((He.Fa.glo "InvalidSet").ok K && ((He.Fa.glo "InvalidSets").ok K && ((He.Fa.glo "InvalidText").ok K && ((He.Fa.glo "InvalidWord").ok K && ((He.Fa.glo "NoAnswer").ok K && ((He.Fa.glo "NotASpace").ok K && ((He.Fa.glo "NotATerm").ok K && ((He.Fa.glo "NothingToUndo").ok K && ((He.Fa.glo "Taken").ok K && ((He.Fa.glo "TooLong").ok K && ((He.Fa.glo "TooMany").ok K && ((He.Fa.glo "UnknownName").ok K && ((He.Fa.glo "WrongName").ok K && ((He.Fa.glo "WrongValue").ok K && ((He.Fa.glo "_law_base_right").ok K && ((He.Fa.glo "_law_bases").ok K && ((He.Fa.glo "_law_first").ok K && ((He.Fa.glo "_law_flags").ok K && ((He.Fa.glo "_law_ladle").ok K && ((He.Fa.glo "_law_pick").ok K && ((He.Fa.glo "_law_right").ok K && ((He.Fa.glo "_law_urn_of").ok K && ((He.Fa.glo "law").ok K && (xc0B K "Alone" && (xc0B K "NoAnswer" && (xc0B K "NothingToUndo" && (xc0B K "WrongName" && (xc0B K "WrongValue" && (exkB K "Broken" && (exkB K "InUse" && (exkB K "InvalidCommand" && (exkB K "InvalidIndex" && (exkB K "InvalidKind" && (exkB K "InvalidLetter" && (exkB K "InvalidName" && (exkB K "InvalidNumber" && (exkB K "InvalidPremises" && (exkB K "InvalidPromise" && (exkB K "InvalidSet" && (exkB K "InvalidSets" && (exkB K "InvalidText" && (exkB K "InvalidWord" && (exkB K "NotASpace" && (exkB K "NotATerm" && (exkB K "Taken" && (exkB K "TooLong" && (exkB K "TooMany" && (exkB K "UnknownName" && (exiB K "InUse" && (exiB K "InvalidCommand" && (exiB K "InvalidIndex" && (exiB K "InvalidKind" && (exiB K "InvalidLetter" && (exiB K "InvalidName" && (exiB K "InvalidNumber" && (exiB K "InvalidPremises" && (exiB K "InvalidPromise" && (exiB K "InvalidSet" && (exiB K "InvalidSets" && (exiB K "InvalidText" && (exiB K "InvalidWord" && (exiB K "NotASpace" && (exiB K "NotATerm" && (exiB K "Taken" && (exiB K "TooLong" && (exiB K "TooMany" && (exiB K "UnknownName" && (exiB K "Broken" && (exnB K "Broken" "index" && (exnB K "Broken" "shown" && (exnB K "InUse" "index" && (exnB K "InvalidCommand" "given" && (exnB K "InvalidIndex" "given" && (exnB K "InvalidKind" "given" && (exnB K "InvalidLetter" "given" && (exnB K "InvalidName" "given" && (exnB K "InvalidNumber" "given" && (exnB K "InvalidPremises" "index" && (exnB K "InvalidPromise" "given" && (exnB K "InvalidSet" "given" && (exnB K "InvalidSets" "index" && (exnB K "InvalidText" "given" && (exnB K "InvalidWord" "given" && (exnB K "NotASpace" "given" && (exnB K "NotATerm" "given" && (exnB K "Taken" "given" && (exnB K "TooLong" "limit" && (exnB K "TooMany" "limit" && (exnB K "UnknownName" "given" && (errlB K ecs && (ktoB K exO && (ktbB K exB && (errfB K ef_given "given" && (errfB K ef_index "index" && (errfB K ef_limit "limit" && (errfB K ef_shown "shown" && (isiB K isiCs))))))))))))))))))))))))))))))))))))))))))))))))))))))))))))))))))))))))))))))))))))))))))))))))))))))))))))))))))))))))))))))))
def fns : List DefM := [⟨fun K => He.ga K "_law_ladle", "_law_ladle", "_law_ladle", defArgs s__law_ladle, defBody s__law_ladle, defScope s__law_ladle⟩,
  ⟨fun K => He.ga K "_law_pick", "_law_pick", "_law_pick", defArgs s__law_pick, defBody s__law_pick, defScope s__law_pick⟩,
  ⟨fun K => He.ga K "_law_first", "_law_first", "_law_first", defArgs s__law_first, defBody s__law_first, defScope s__law_first⟩,
  ⟨fun K => He.ga K "_law_flags", "_law_flags", "_law_flags", defArgs s__law_flags, defBody s__law_flags, defScope s__law_flags⟩,
  ⟨fun K => He.ga K "_law_bases", "_law_bases", "_law_bases", defArgs s__law_bases, defBody s__law_bases, defScope s__law_bases⟩,
  ⟨fun K => He.ga K "_law_base_right", "_law_base_right", "_law_base_right", defArgs s__law_base_right, defBody s__law_base_right, defScope s__law_base_right⟩,
  ⟨fun K => He.ga K "_law_right", "_law_right", "_law_right", defArgs s__law_right, defBody s__law_right, defScope s__law_right⟩,
  ⟨fun K => He.ga K "_law_urn_of", "_law_urn_of", "_law_urn_of", defArgs s__law_urn_of, defBody s__law_urn_of, defScope s__law_urn_of⟩,
  ⟨fun K => He.ga K "law", "law", "law", defArgs s_law, defBody s_law, defScope s_law⟩,
  ⟨fun K => He.ma K (He.ga K "InUse") "__init__", "__init__", "InUse.__init__", defArgs s_InUse___init__, defBody s_InUse___init__, defScope s_InUse___init__⟩,
  ⟨fun K => He.ma K (He.ga K "InvalidCommand") "__init__", "__init__", "InvalidCommand.__init__", defArgs s_InvalidCommand___init__, defBody s_InvalidCommand___init__, defScope s_InvalidCommand___init__⟩,
  ⟨fun K => He.ma K (He.ga K "InvalidIndex") "__init__", "__init__", "InvalidIndex.__init__", defArgs s_InvalidIndex___init__, defBody s_InvalidIndex___init__, defScope s_InvalidIndex___init__⟩,
  ⟨fun K => He.ma K (He.ga K "InvalidKind") "__init__", "__init__", "InvalidKind.__init__", defArgs s_InvalidKind___init__, defBody s_InvalidKind___init__, defScope s_InvalidKind___init__⟩,
  ⟨fun K => He.ma K (He.ga K "InvalidLetter") "__init__", "__init__", "InvalidLetter.__init__", defArgs s_InvalidLetter___init__, defBody s_InvalidLetter___init__, defScope s_InvalidLetter___init__⟩,
  ⟨fun K => He.ma K (He.ga K "InvalidName") "__init__", "__init__", "InvalidName.__init__", defArgs s_InvalidName___init__, defBody s_InvalidName___init__, defScope s_InvalidName___init__⟩,
  ⟨fun K => He.ma K (He.ga K "InvalidNumber") "__init__", "__init__", "InvalidNumber.__init__", defArgs s_InvalidNumber___init__, defBody s_InvalidNumber___init__, defScope s_InvalidNumber___init__⟩,
  ⟨fun K => He.ma K (He.ga K "InvalidPremises") "__init__", "__init__", "InvalidPremises.__init__", defArgs s_InvalidPremises___init__, defBody s_InvalidPremises___init__, defScope s_InvalidPremises___init__⟩,
  ⟨fun K => He.ma K (He.ga K "InvalidPromise") "__init__", "__init__", "InvalidPromise.__init__", defArgs s_InvalidPromise___init__, defBody s_InvalidPromise___init__, defScope s_InvalidPromise___init__⟩,
  ⟨fun K => He.ma K (He.ga K "InvalidSet") "__init__", "__init__", "InvalidSet.__init__", defArgs s_InvalidSet___init__, defBody s_InvalidSet___init__, defScope s_InvalidSet___init__⟩,
  ⟨fun K => He.ma K (He.ga K "InvalidSets") "__init__", "__init__", "InvalidSets.__init__", defArgs s_InvalidSets___init__, defBody s_InvalidSets___init__, defScope s_InvalidSets___init__⟩,
  ⟨fun K => He.ma K (He.ga K "InvalidText") "__init__", "__init__", "InvalidText.__init__", defArgs s_InvalidText___init__, defBody s_InvalidText___init__, defScope s_InvalidText___init__⟩,
  ⟨fun K => He.ma K (He.ga K "InvalidWord") "__init__", "__init__", "InvalidWord.__init__", defArgs s_InvalidWord___init__, defBody s_InvalidWord___init__, defScope s_InvalidWord___init__⟩,
  ⟨fun K => He.ma K (He.ga K "NotASpace") "__init__", "__init__", "NotASpace.__init__", defArgs s_NotASpace___init__, defBody s_NotASpace___init__, defScope s_NotASpace___init__⟩,
  ⟨fun K => He.ma K (He.ga K "NotATerm") "__init__", "__init__", "NotATerm.__init__", defArgs s_NotATerm___init__, defBody s_NotATerm___init__, defScope s_NotATerm___init__⟩,
  ⟨fun K => He.ma K (He.ga K "Taken") "__init__", "__init__", "Taken.__init__", defArgs s_Taken___init__, defBody s_Taken___init__, defScope s_Taken___init__⟩,
  ⟨fun K => He.ma K (He.ga K "TooLong") "__init__", "__init__", "TooLong.__init__", defArgs s_TooLong___init__, defBody s_TooLong___init__, defScope s_TooLong___init__⟩,
  ⟨fun K => He.ma K (He.ga K "TooMany") "__init__", "__init__", "TooMany.__init__", defArgs s_TooMany___init__, defBody s_TooMany___init__, defScope s_TooMany___init__⟩,
  ⟨fun K => He.ma K (He.ga K "UnknownName") "__init__", "__init__", "UnknownName.__init__", defArgs s_UnknownName___init__, defBody s_UnknownName___init__, defScope s_UnknownName___init__⟩,
  ⟨fun K => He.ma K (He.ga K "Broken") "__init__", "__init__", "Broken.__init__", defArgs s_Broken___init__, defBody s_Broken___init__, defScope s_Broken___init__⟩]
abbrev R : PySem.W.OpenRow := PySem.W.OpenLaw.row PySem.Challenge.rw_closedinner_k01_errors_and_limits

abbrev hk : PySem.W.Hook := hookM 6 ck fns
def ob (s : PySem.W.SharedT) : AlM := obsMG 6 ck fns (HandSHeadRun.getT s)
section
open HandSHeadRun PySem.W PySem.Calls
def loose : List PySem.Str := (("WrongValue" : PySem.Str) :: ("InvalidText" : PySem.Str) :: ("InvalidKind" : PySem.Str) :: ("InvalidSet" : PySem.Str) :: ("InvalidWord" : PySem.Str) :: ("InvalidLetter" : PySem.Str) :: ("InvalidNumber" : PySem.Str) :: ("InvalidName" : PySem.Str) :: ("InvalidIndex" : PySem.Str) :: ("InvalidPromise" : PySem.Str) :: ("InvalidCommand" : PySem.Str) :: ("NotATerm" : PySem.Str) :: ("NotASpace" : PySem.Str) :: ("InvalidPremises" : PySem.Str) :: ("InvalidSets" : PySem.Str) :: ("WrongName" : PySem.Str) :: ("UnknownName" : PySem.Str) :: ("Taken" : PySem.Str) :: ("InUse" : PySem.Str) :: ("NoAnswer" : PySem.Str) :: ("TooMany" : PySem.Str) :: ("TooLong" : PySem.Str) :: ("Alone" : PySem.Str) :: ("NothingToUndo" : PySem.Str) :: ("Broken" : PySem.Str) :: ("MOST_POINTS" : PySem.Str) :: ("MOST_SIGNS" : PySem.Str) :: ("MOST_WEIGHT" : PySem.Str) :: ("MOST_WORD" : PySem.Str) :: ("MOST_PREMISES" : PySem.Str) :: ("MOST_LISTED" : PySem.Str) :: ("MOST_TRIED" : PySem.Str) :: ("_law_urn_of" : PySem.Str) :: ("_law_ladle" : PySem.Str) :: ("_law_pick" : PySem.Str) :: ("_law_flags" : PySem.Str) :: ("_law_bases" : PySem.Str) :: ("_law_first" : PySem.Str) :: ("_law_base_right" : PySem.Str) :: ("_law_right" : PySem.Str) :: [])
theorem tri {α β γ δ : Type} {o : Option α} {f : α → β} {g : α → γ} {h : α → δ} {x : β} {y : γ} {z : δ} (a : o.map f = some x) (b : o.map g = some y) (c : o.map h = some z) : o.map (fun s => (f s, g s, h s)) = some (x, y, z) := by
  cases o with
  | none => cases a
  | some s =>
    cases a
    cases b
    cases c
    rfl
theorem run_a (w : World) (os : OsState) : (HandSHeadRun.endF (stepQ (denQ tabQ) R.prog w) 6500 R.prog w os).map (fun s => looksF R.prog (boot_heap w.params) s.abs) = some true := by kernel_rfl
theorem run_b (w : World) (os : OsState) : (HandSHeadRun.endF (stepQ (denQ tabQ) R.prog w) 6500 R.prog w os).map (fun s => seenQ (view R.prog [42]) loose (importedModules R.prog.main.body) (fun s => xlAt (view R.prog [42]) [] s && recOk R.toRowW.records s) s.abs) = some (openGood (view R.prog [42]) loose) := by kernel_rfl
theorem run_c (w : World) (os : OsState) : (HandSHeadRun.endF (stepQ (denQ tabQ) R.prog w) 6500 R.prog w os).map (fun s => ob s) = some (hk.val w) := by kernel_rfl
theorem run (w : World) : HandSHeadRun.RunEq R (PySem.W.view R.prog [42]) hk ob 6500 loose w := fun os => tri (run_a w os) (run_b w os) (run_c w os)
end
end Law

namespace Mir
open PySem L2

abbrev ME := En → Sto → Res Vl


section
variable {K : PySem.W.Frag} {F F' : Hp}
theorem RepL.get : ∀ {xs : List P} {vs : List V} {i : Nat} {x : P}, RepL K F xs vs → xs[i]? = some x → ∃ v, vs[i]? = some v ∧ Rep K F x v
  | [], _, _, _, h, e => by simp at e
  | y :: xs, vs, 0, x, h, e => by
    obtain ⟨v, r, e1, h1, h2⟩ := h
    have : y = x := by simpa using e
    subst this
    subst e1
    exact ⟨v, rfl, h1⟩
  | y :: xs, vs, i + 1, x, h, e => by
    obtain ⟨v, r, e1, h1, h2⟩ := h
    subst e1
    obtain ⟨u, hu, hr⟩ := RepL.get (i := i) h2 (by simpa using e)
    exact ⟨u, by simpa using hu, hr⟩
theorem RepL.drop : ∀ {xs : List P} {vs : List V} (n : Nat), RepL K F xs vs → RepL K F (xs.drop n) (vs.drop n)
  | [], vs, n, h => by
    have h' : _ = _ := h
    subst h'
    simp only [List.drop_nil]
    exact .nil
  | x :: xs, vs, 0, h => h
  | x :: xs, vs, n + 1, h => by
    obtain ⟨v, r, e1, h1, h2⟩ := h
    subst e1
    exact RepL.drop n h2
theorem RepL.dropLast {xs : List P} {vs : List V} (h : RepL K F xs vs) : RepL K F xs.dropLast vs.dropLast := by
  rw [List.dropLast_eq_take, List.dropLast_eq_take, h.length]
  exact h.take _
end

section
variable {K : PySem.W.Frag} {io io1 io2 : Io} {F F1 F2 H H1 H2 : Hp} {S : Sto}
theorem RepVs.get : ∀ {xs : List Vl} {vs : List V} {i : Nat} {x : Vl}, RepVs K io F xs vs → xs[i]? = some x → ∃ v, vs[i]? = some v ∧ RepV K io F x v
  | [], _, _, _, h, e => by simp at e
  | y :: xs, vs, 0, x, h, e => by
    obtain ⟨v, r, e1, h1, h2⟩ := h
    have : y = x := by simpa using e
    subst this
    subst e1
    exact ⟨v, rfl, h1⟩
  | y :: xs, vs, i + 1, x, h, e => by
    obtain ⟨v, r, e1, h1, h2⟩ := h
    subst e1
    obtain ⟨u, hu, hr⟩ := RepVs.get (i := i) h2 (by simpa using e)
    exact ⟨u, by simpa using hu, hr⟩
theorem Sta.froze (st : Sta K io F S H) {p : Addr} {o : HO} (hp : H p = none) : Sta K io (upd F p o) S (upd H p o) ∧ Nxt io F H io (upd F p o) (upd H p o) := by
  have hF : F p = none := Same.free st.sub hp
  refine ⟨⟨st.len, st.inj, fun b u e => ?_, fun k a e z => ?_, fun k c e => ?_⟩, ⟨fun _ _ h => h, upd_same_of hF, fun b u e _ => ?_, fun _ _ h => .inl h, fun b e => ?_, fun b e => ?_⟩⟩
  · by_cases hb : b = p
    · subst hb
      rw [upd_same] at e ⊢
      exact e
    · rw [upd_ne hb] at e ⊢
      exact st.sub _ _ e
  · have q := st.trk k a e
    by_cases hb : a = p
    · subst hb; exact q hp
    · rw [upd_ne hb] at z; exact q z
  · have h := st.cel k c e
    by_cases hc : (∃ x, c = .fz x) ∨ (c = .res ∨ ∃ j' a', c = .adr j' a') ∨ (∃ xs, c = .tup xs) ∨ ∃ xs, c = .dvs xs ∨ c = .tpz xs
    · rcases hc with ⟨x, rfl⟩ | (rfl | ⟨j', a', rfl⟩) | ⟨xs, rfl⟩ | ⟨xs, rfl | rfl⟩
      · obtain ⟨a, h1, h2⟩ := h
        exact ⟨a, h1, Rep.mono (upd_same_of hF) h2⟩
      · exact h
      · exact h
      · obtain ⟨a, vs, h1, h2, h3⟩ := h
        exact ⟨a, vs, h1, upd_same_of hF _ _ h2, RepL.mono (upd_same_of hF) h3⟩
      · obtain ⟨a, o, η, es, h1, h2, h3⟩ := h
        exact ⟨a, o, η, es, h1, upd_same_of hF _ _ h2, RepL.mono (upd_same_of hF) h3⟩
      · obtain ⟨a, vs, o, h1, h2, h3, h4, h5⟩ := h
        exact ⟨a, vs, o, h1, upd_same_of hF _ _ h2, h3, h4, RepL.mono (upd_same_of hF) h5⟩
    · have hc1 : ∀ x, c ≠ .fz x := fun x z => hc (.inl ⟨x, z⟩)
      have hc2 : c ≠ .res ∧ ∀ j' a', c ≠ .adr j' a' := ⟨fun z => hc (.inr (.inl (.inl z))), fun j' a' z => hc (.inr (.inl (.inr ⟨j', a', z⟩)))⟩
      obtain ⟨a, ob, ha, hn, hh⟩ := h.there hc1 hc2 (fun xs z => hc (.inr (.inr (.inl ⟨xs, z⟩)))) (fun xs => ⟨fun z => hc (.inr (.inr (.inr ⟨xs, .inl z⟩))), fun z => hc (.inr (.inr (.inr ⟨xs, .inr z⟩)))⟩)
      have nap : a ≠ p := ne_of_none hh hp
      refine h.mono (fun _ _ z => z) (upd_same_of hF) (fun b hb hn => ?_) fun b u hb hu => ?_
      · rw [ha] at hb; cases hb
        rw [upd_ne nap]; exact hn
      · rw [ha] at hb; cases hb
        rw [upd_ne nap]; exact hu
  · rw [upd_ne (ne_of_none e hp)]
    exact e
  · by_cases hb : b = p
    · subst hb; exact hp
    · rw [upd_ne hb] at e; exact e
  · by_cases hb : b = p
    · subst hb; exact .inr (.inl hp)
    · rw [upd_ne hb] at e; exact .inl e
theorem Sta.push (st : Sta K io F S H) {p : Addr} {o : HO} {c : Cell} (hp : H p = none) (hc : CellAt K (io ++ [some p]) F (upd H p o) S.length c) :
    Sta K (io ++ [some p]) F (S ++ [c]) (upd H p o) ∧ Nxt io F H (io ++ [some p]) F (upd H p o) := by
  have hF : F p = none := Same.free st.sub hp
  have hi : ∀ (k : Nat) (a : Addr), io[k]? = some (some a) → (io ++ [some p])[k]? = some (some a) := fun k a e => by
    rw [List.getElem?_append_left (List.getElem?_eq_some_iff.mp e).1]
    exact e
  have back : ∀ (k : Nat) (a : Addr), (io ++ [some p])[k]? = some (some a) → io[k]? = some (some a) ∨ (k = io.length ∧ a = p) := fun k a e => by
    rw [List.getElem?_append] at e
    split at e
    · exact .inl e
    · rename_i hk
      have hk2 : k - io.length = 0 := by
        have := (List.getElem?_eq_some_iff.mp e).1
        simp at this
        omega
      rw [hk2] at e
      have e' : p = a := by simpa using e
      exact .inr ⟨by omega, e'.symm⟩
  -- a live cell is not at p
  refine ⟨⟨by rw [List.length_append, List.length_append, st.len]; rfl, fun j k a h1 h2 => ?_, fun b u e => ?_, fun k a e z => ?_, fun k d e => ?_⟩, ⟨hi, fun _ _ h => h, fun b u e _ => ?_, fun k a h => ?_, fun b e => ?_, fun b e => .inl e⟩⟩
  · rcases back j a h1 with z | ⟨rfl, z⟩
    · rcases back k a h2 with y | ⟨rfl, y⟩
      · exact st.inj j k a z y
      · subst y; exact absurd hp (st.trk j _ z)
    · rcases back k a h2 with y | ⟨rfl, y⟩
      · subst z; exact absurd hp (st.trk k _ y)
      · rfl
  · rw [upd_ne (ne_of_none (st.sub _ _ e) hp)]
    exact st.sub _ _ e
  · rcases back k a e with y | ⟨rfl, y⟩
    · have q := st.trk k a y
      by_cases hb : a = p
      · subst hb; exact q hp
      · rw [upd_ne hb] at z; exact q z
    · subst y; rw [upd_same] at z; cases z
  · rw [List.getElem?_append] at e
    split at e
    · have h := st.cel k d e
      by_cases hd : (∃ x, d = .fz x) ∨ (d = .res ∨ ∃ j' a', d = .adr j' a') ∨ (∃ xs, d = .tup xs) ∨ ∃ xs, d = .dvs xs ∨ d = .tpz xs
      · rcases hd with ⟨x, rfl⟩ | (rfl | ⟨j', a', rfl⟩) | ⟨xs, rfl⟩ | ⟨xs, rfl | rfl⟩
        · obtain ⟨a, h1, h2⟩ := h
          exact ⟨a, hi _ _ h1, h2⟩
        · exact app_none h
        · exact ⟨app_none h.1, hi _ _ h.2.1, h.2.2⟩
        · obtain ⟨a, vs, h1, h2, h3⟩ := h
          exact ⟨a, vs, hi _ _ h1, h2, h3⟩
        · obtain ⟨a, o, η, es, h1, h2, h3⟩ := h
          exact ⟨a, o, η, es, hi _ _ h1, h2, h3⟩
        · obtain ⟨a, vs, o, h1, h2, h3, h4, h5⟩ := h
          exact ⟨a, vs, o, hi _ _ h1, h2, h3, h4, h5⟩
      · obtain ⟨a, ob, ha, hn, hh⟩ := h.there (fun x z => hd (.inl ⟨x, z⟩)) ⟨fun z => hd (.inr (.inl (.inl z))), fun j' a' z => hd (.inr (.inl (.inr ⟨j', a', z⟩)))⟩ (fun xs z => hd (.inr (.inr (.inl ⟨xs, z⟩)))) (fun xs => ⟨fun z => hd (.inr (.inr (.inr ⟨xs, .inl z⟩))), fun z => hd (.inr (.inr (.inr ⟨xs, .inr z⟩)))⟩)
        have nap : a ≠ p := ne_of_none hh hp
        refine h.mono hi (fun _ _ z => z) (fun _ _ hn => hn) fun b u hb hu => ?_
        rw [ha] at hb; cases hb
        rw [upd_ne nap]; exact hu
    · rename_i hk
      have hk2 : k - S.length = 0 := by
        have := (List.getElem?_eq_some_iff.mp e).1
        simp at this
        omega
      rw [hk2] at e
      have e' : c = d := by simpa using e
      subst e'
      have : k = S.length := by omega
      subst this
      exact hc
  · rw [upd_ne (ne_of_none e hp)]
    exact e
  · rcases back k a h with z | ⟨_, rfl⟩
    · exact .inl z
    · exact .inr hp
  · by_cases hb : b = p
    · subst hb; exact hp
    · rw [upd_ne hb] at e; exact e
theorem Sta.side (st : Sta K io F S H) {p : Addr} {o : HO} (hp : ∀ k : Nat, io[k]? ≠ some (some p)) (hF : F p = none) : Sta K io F S (upd H p o) := by
  refine ⟨st.len, st.inj, fun b u e => ?_, fun k a e z => ?_, fun k c e => ?_⟩
  · rw [upd_ne (ne_of_none e hF)]
    exact st.sub _ _ e
  · rw [upd_ne (fun q => by subst q; exact hp k e)] at z
    exact st.trk k a e z
  · refine (st.cel k c e).mono (fun _ _ z => z) (fun _ _ z => z) (fun _ _ hn => hn) fun b u hb hu => ?_
    rw [upd_ne (fun q => by subst q; exact hp k hb)]
    exact hu
def _root_.Mir.nv (S : Sto) : Vl → Vl
  | .p x => .p x
  | .c k => (match S[k]? with
    | some (.fz x) => .p x
    | some (.tup xs) => .p (.tup xs)
    | some (.tpz xs) => .p (.tup xs)
    | _ => .c k)
theorem Sta.nv (st : Sta K io F S H) {d : Vl} {v : V} (r : RepV K io F d v) : RepV K io F (Mir.nv S d) v := by
  cases d with
  | p x => exact r
  | c k =>
    unfold Mir.nv
    dsimp only
    split
    · rename_i x hk
      obtain ⟨a, ha, rfl⟩ := r
      obtain ⟨b, hb, hr⟩ := st.cel k _ hk
      rw [ha] at hb
      cases hb
      exact hr
    · rename_i xs hk
      obtain ⟨a, ha, rfl⟩ := r
      obtain ⟨b, vs, hb, hF, hr⟩ := st.cel k _ hk
      rw [ha] at hb
      cases hb
      exact ⟨a, vs, rfl, SqT.of hF, hr⟩
    · rename_i xs hk
      obtain ⟨a, ha, rfl⟩ := r
      obtain ⟨b, vs, o, hb, hF, _, _, hr⟩ := st.cel k _ hk
      rw [ha] at hb
      cases hb
      exact ⟨a, vs, rfl, .inl (.inr ⟨o, hF⟩), hr⟩
    · exact r
theorem Sta.notIn (st : Sta K io F S H) {p : Addr} (hp : H p = none) : ∀ k : Nat, io[k]? ≠ some (some p) := fun k e => st.trk k p e hp
end
end Mir

namespace Mir
open PySem L2
section
variable {K : PySem.W.Frag} {io io1 io2 : Io} {F F1 F2 H H1 H2 : Hp} {S : Sto}
theorem Sta.write (st : Sta K io F S H) {k : Nat} {a : Addr} {o : HO} {c : Cell} (ha : io[k]? = some (some a)) (hF : F a = none)
    (hc : CellAt K io F (upd H a o) k c) : Sta K io F (S.set k c) (upd H a o) ∧ Nxt io F H io F (upd H a o) := by
  refine ⟨⟨by rw [List.length_set]; exact st.len, st.inj, fun b u e => ?_, fun j b e z => ?_, fun j d e => ?_⟩, ⟨fun _ _ h => h, fun _ _ h => h, fun b u e n => ?_, fun _ _ h => .inl h, fun b e => ?_, fun b e => .inl e⟩⟩
  · rw [upd_ne (ne_of_none e hF)]
    exact st.sub _ _ e
  · by_cases hb : b = a
    · subst hb; rw [upd_same] at z; cases z
    · rw [upd_ne hb] at z; exact st.trk j b e z
  · by_cases hj : j = k
    · subst hj
      rw [List.getElem?_set_self (by
        have := (List.getElem?_eq_some_iff.mp ha).1
        rw [st.len] at this
        exact this)] at e
      cases e
      exact hc
    · rw [List.getElem?_set_ne (Ne.symm hj)] at e
      refine (st.cel j d e).mono (fun _ _ z => z) (fun _ _ z => z) (fun _ _ hn => hn) fun b u hb hu => ?_
      have nb : b ≠ a := fun q => by subst q; exact hj (st.inj j k _ hb ha)
      rw [upd_ne nb]; exact hu
  · rw [upd_ne (fun q => by subst q; exact n k ha)]
    exact e
  · by_cases hb : b = a
    · subst hb; rw [upd_same] at e; cases e
    · rw [upd_ne hb] at e; exact e
theorem Sta.lay (st : Sta K io F S H) {p : Addr} {o : HO} {c : Cell} (hp : ∀ k : Nat, io[k]? ≠ some (some p)) (hF : F p = none) (hH : H p = some o) (hc : CellAt K (io ++ [some p]) F H S.length c) :
    Sta K (io ++ [some p]) F (S ++ [c]) H ∧ ∀ (k : Nat) (a : Addr), io[k]? = some (some a) → (io ++ [some p])[k]? = some (some a) := by
  have hi : ∀ (k : Nat) (a : Addr), io[k]? = some (some a) → (io ++ [some p])[k]? = some (some a) := fun k a e => by
    rw [List.getElem?_append_left (List.getElem?_eq_some_iff.mp e).1]
    exact e
  have back : ∀ (k : Nat) (a : Addr), (io ++ [some p])[k]? = some (some a) → io[k]? = some (some a) ∨ (k = io.length ∧ a = p) := fun k a e => by
    rw [List.getElem?_append] at e
    split at e
    · exact .inl e
    · rename_i hk
      have hk2 : k - io.length = 0 := by
        have := (List.getElem?_eq_some_iff.mp e).1
        simp at this
        omega
      rw [hk2] at e
      have e' : p = a := by simpa using e
      exact .inr ⟨by omega, e'.symm⟩
  refine ⟨⟨by rw [List.length_append, List.length_append, st.len]; rfl, fun j k a h1 h2 => ?_, st.sub, fun k a e z => ?_, fun k d e => ?_⟩, hi⟩
  · rcases back j a h1 with z | ⟨rfl, z⟩
    · rcases back k a h2 with y | ⟨rfl, y⟩
      · exact st.inj j k a z y
      · subst y; exact absurd z (hp j)
    · rcases back k a h2 with y | ⟨rfl, y⟩
      · subst z; exact absurd y (hp k)
      · rfl
  · rcases back k a e with y | ⟨rfl, y⟩
    · exact st.trk k a y z
    · subst y; rw [hH] at z; cases z
  · rw [List.getElem?_append] at e
    split at e
    · exact (st.cel k d e).mono hi (fun _ _ z => z) (fun _ _ hn => hn) fun _ _ _ hu => hu
    · rename_i hk
      have hk2 : k - S.length = 0 := by
        have := (List.getElem?_eq_some_iff.mp e).1
        simp at this
        omega
      rw [hk2] at e
      have e' : c = d := by simpa using e
      subst e'
      have : k = S.length := by omega
      subst this
      exact hc
theorem RepVs.cut {n : Nat} : ∀ {xs : List Vl} {vs : List V}, (∀ j, Vl.c j ∈ xs → j < n) → RepVs K io F xs vs → RepVs K (io.take n) F xs vs
  | [], _, _, h => h
  | x :: xs, vs, hn, ⟨v, r, e1, h1, h2⟩ => by
    refine ⟨v, r, e1, ?_, RepVs.cut (fun j hj => hn j (List.mem_cons_of_mem _ hj)) h2⟩
    cases x with
    | p y => exact h1
    | c j =>
      obtain ⟨a, ha, hv⟩ := h1
      exact ⟨a, by rw [List.getElem?_take_of_lt (hn j List.mem_cons_self)]; exact ha, hv⟩
theorem Sta.cut (st : Sta K io F S H) (n : Nat) : Sta K (io.take n) F (S.take n) H := by
  have hb : ∀ (k : Nat) (a : Addr), (io.take n)[k]? = some (some a) → io[k]? = some (some a) := fun k a e => by
    rw [List.getElem?_take] at e
    split at e
    · exact e
    · cases e
  refine ⟨by rw [List.length_take, List.length_take, st.len], fun j k a h1 h2 => st.inj j k a (hb _ _ h1) (hb _ _ h2), st.sub, fun k a e => st.trk k a (hb _ _ e), fun k c e => ?_⟩
  have hk : k < n := by
    rw [List.getElem?_take] at e
    split at e
    · assumption
    · cases e
  rw [List.getElem?_take_of_lt hk] at e
  have h := st.cel k c e
  have hi : ∀ a, io[k]? = some (some a) → (io.take n)[k]? = some (some a) := fun a z => by rw [List.getElem?_take_of_lt hk]; exact z
  cases c with
  | lst xs =>
    obtain ⟨a, vs, h1, h2, h3, h4⟩ := h
    exact ⟨a, vs, hi _ h1, h2, h3, h4⟩
  | lsv ks =>
    obtain ⟨a, vs, h1, h2, h3, h4, h5⟩ := h
    exact ⟨a, vs, hi _ h1, h2, h3, RepVs.cut (fun j hj => Nat.lt_trans (h5 j hj) hk) h4, h5⟩
  | dct ks xs =>
    obtain ⟨a, vs, h1, h2, h3, h4, h5⟩ := h
    exact ⟨a, vs, hi _ h1, h2, h3, h4, h5⟩
  | ins cc ns xs =>
    obtain ⟨a, dx, gs, h1, h2, h3, h4, h5, h6⟩ := h
    exact ⟨a, dx, gs, hi _ h1, h2, h3, h4, RepVs.cut (fun j hj => Nat.lt_trans (h6 j hj) hk) h5, h6⟩
  | fz x =>
    obtain ⟨a, h1, h2⟩ := h
    exact ⟨a, hi _ h1, h2⟩
  | res =>
    show (io.take n)[k]? = some none
    rw [List.getElem?_take_of_lt hk]
    exact h
  | tup xs =>
    obtain ⟨a, vs, h1, h2, h3⟩ := h
    exact ⟨a, vs, hi _ h1, h2, h3⟩
  | tpz xs =>
    obtain ⟨a, vs, o, h1, h2, h3, h4, h5⟩ := h
    exact ⟨a, vs, o, hi _ h1, h2, h3, h4, h5⟩
  | dcT ks xs =>
    obtain ⟨a, ws, h1, h2, h3, h4, h5⟩ := h
    exact ⟨a, ws, hi _ h1, h2, h3, h4, h5⟩
  | dcN η ks xs =>
    obtain ⟨a, es, h1, h2, h3, h4, h5, h6⟩ := h
    exact ⟨a, es, hi _ h1, h2, h3, h4, h5, h6⟩
  | tbl p q =>
    obtain ⟨h1, h2, h3⟩ := h
    exact ⟨hi _ h1, h2, h3⟩
  | dvs xs =>
    obtain ⟨a, o, η, es, h1, h2, h3⟩ := h
    exact ⟨a, o, η, es, hi _ h1, h2, h3⟩
  | adr j a => exact ⟨by rw [List.getElem?_take_of_lt hk]; exact h.1, by rw [List.getElem?_take_of_lt (by have := h.2.2; omega)]; exact h.2.1, h.2.2⟩
  | tblC p q c =>
    obtain ⟨⟨h1, h2, h3⟩, h4⟩ := h
    exact ⟨⟨hi _ h1, h2, h3⟩, h4⟩
theorem Nxt.cut {n : Nat} (hn : io.length = n) (a : Nxt io F H io1 F1 H1) : Nxt io F H (io1.take n) F1 H1 where
  han := fun k x e => by
    have hk : k < n := by
      rw [← hn]
      exact (List.getElem?_eq_some_iff.mp e).1
    rw [List.getElem?_take_of_lt hk]
    exact a.han k x e
  fr := a.fr
  out := a.out
  new := fun k x e => by
    rw [List.getElem?_take] at e
    split at e
    · exact a.new k x e
    · cases e
  stay := a.stay
  nf := a.nf
theorem RepV.cut {n : Nat} {d : Vl} {v : V} (hd : ∀ j, d = .c j → j < n) (h : RepV K io F d v) : RepV K (io.take n) F d v := by
  cases d with
  | p y => exact h
  | c j =>
    obtain ⟨a, ha, hv⟩ := h
    exact ⟨a, by rw [List.getElem?_take_of_lt (hd j rfl)]; exact ha, hv⟩
end

section
variable {K : PySem.W.Frag} {io : Io} {F H : Hp} {S : Sto} {A B C D : Type} {R : Io → Hp → A → B → Prop} {R' : Io → Hp → C → D → Prop} {Q : D → Hp → Prop} {Q1 : B → Hp → Prop} {W : XK}
end
abbrev RepAs (K : PySem.W.Frag) : Io → Hp → List Vl → List V → Prop := fun io F d v => RepVs K io F d v

section
variable {K : PySem.W.Frag} {io io' : Io} {F F' H H' : Hp}
theorem Env.nxt (n : Nxt io F H io' F' H') {ds : En} {s : St} (h : Env K io F ds s) : Env K io' F' ds s := h.mono n.han n.fr
theorem Env.get : ∀ {ds : En} {s : St} {i : Nat} {d : Vl}, Env K io F ds s → ds[i]? = some (some d) → ∃ v, s[i]? = some (some v) ∧ RepV K io F d v
  | [], _, _, _, _, e => by simp at e
  | x :: ds, s, 0, d, ⟨o, r, e1, h1, h2⟩, e => by
    have e' : x = some d := by simpa using e
    subst e'
    obtain ⟨v, e2, h3⟩ := h1
    subst e1; subst e2
    exact ⟨v, rfl, h3⟩
  | x :: ds, s, i + 1, d, ⟨o, r, e1, h1, h2⟩, e => by
    subst e1
    obtain ⟨v, hv, hr⟩ := Env.get (i := i) h2 (by simpa using e)
    exact ⟨v, by simpa using hv, hr⟩
theorem Env.unset : ∀ {ds : En} {s : St} (i : Nat) (o : Option V), Env K io F ds s → Env K io F (ds.set i none) (s.set i o)
  | [], _, _, _, h => by
    have h' : _ = _ := h
    subst h'
    exact rfl
  | x :: ds, s, 0, o', ⟨o, r, e1, h1, h2⟩ => by
    subst e1
    exact ⟨o', r, rfl, trivial, h2⟩
  | x :: ds, s, i + 1, o', ⟨o, r, e1, h1, h2⟩ => by
    subst e1
    exact ⟨o, _, rfl, h1, Env.unset i o' h2⟩
theorem Env.start : ∀ {ds : List Vl} {vs : List V} (n : Nat), RepVs K io F ds vs → Env K io F (ds.map some ++ List.replicate n none) (vs.map some ++ List.replicate n none)
  | [], _, n, h => by
    have h' : _ = _ := h
    subst h'
    show Env K io F (List.replicate n none) (List.replicate n none)
    induction n with
    | zero => exact rfl
    | succ n ih => exact ⟨none, _, rfl, trivial, ih⟩
  | d :: ds, _, n, ⟨v, r, e1, h1, h2⟩ => by
    subst e1
    exact ⟨some v, _, rfl, ⟨v, rfl, h1⟩, Env.start n h2⟩
def wipeE (ds : En) : List Nat → En
  | [] => ds
  | v :: vs => (wipeE ds vs).set v none
theorem Env.wipe {ds : En} {s : St} (h : Env K io F ds s) : ∀ vs : List Nat, Env K io F (wipeE ds vs) (L2.wipe s vs)
  | [] => h
  | v :: vs => (Env.wipe h vs).unset v none
end

def OE (X : Cx) (W : WX) (e : Expr) (m : ME) : Prop := ∃ t, PE X e t ∧ ∀ (ρ : En) (S : Sto) (io : Io) (F : Hp) (σ : St) (H : Hp) (Q : VK), Sta X.K io F S H → Env X.K io F ρ σ →
  RG X.K (RepA X.K) (m ρ S) io F H Q (fun c d H' => W c d σ H') → t σ H Q
abbrev MT := En → Sto → Res Bool
def RepB : Io → Hp → Bool → Bool → Prop := fun _ _ b c => b = c
def OT (X : Cx) (W : WX) (e : Expr) (m : MT) : Prop := ∃ t, PT X e t ∧ ∀ (ρ : En) (S : Sto) (io : Io) (F : Hp) (σ : St) (H : Hp) (Q : Bool → Hp → Prop), Sta X.K io F S H → Env X.K io F ρ σ →
  RG X.K RepB (m ρ S) io F H Q (fun c d H' => W c d σ H') → t σ H Q
abbrev MA := En → Sto → Res (List Vl)
def OA (X : Cx) (W : WX) (es : List Expr) (m : MA) : Prop := ∃ t, PA X es t ∧ ∀ (ρ : En) (S : Sto) (io : Io) (F : Hp) (σ : St) (H : Hp) (Q : List V → Hp → Prop), Sta X.K io F S H → Env X.K io F ρ σ →
  RG X.K (RepAs X.K) (m ρ S) io F H Q (fun c d H' => W c d σ H') → t σ H Q
def Res.go {A : Type} (r : Res A) (ρ : En) (f : A → Sto → RF) : RF := match r with
  | .ok a S => f a S
  | .exc c x S => .ok (.xc ρ c x) S
  | .bad => .bad
section
variable {K : PySem.W.Frag} {io : Io} {F H : Hp} {S : Sto} {A B : Type} {R : Io → Hp → A → B → Prop} {Q1 : B → Hp → Prop} {W : WX} {D : Ends} {ρ : En} {σ : St}
theorem RS.go {r : Res A} {f : A → Sto → RF} (en : Env K io F ρ σ) (h : RS K (r.go ρ f) io F H D W)
    (k : ∀ a S1 io1 F1 H1 v, r = .ok a S1 → Nxt io F H io1 F1 H1 → Sta K io1 F1 S1 H1 → R io1 F1 a v → RS K (f a S1) io1 F1 H1 D W → Q1 v H1) : RG K R r io F H Q1 (fun c d H' => W c d σ H') := by
  cases r with
  | ok a S => exact fun io' F' H' v n s rp => k a S io' F' H' v rfl n s rp (RS.step n h)
  | exc c x S => exact fun io' F' H' d n s xr => h io' F' H' d σ n s (en.nxt n) xr
  | bad => exact h
end
end Mir

namespace Mir
open PySem L2

def eVar (i : Nat) : ME := fun ρ S => match ρ[i]? with
  | some (some d) => .ok d S
  | _ => .bad
def eC (x : P) : ME := fun _ S => .ok (.p x) S
def op1 (f : P → Option P) (x : Vl) (S : Sto) : Res Vl := match rd S x with
  | some x => (match f x with
    | some z => .ok (.p z) S
    | none => .bad)
  | none => .bad
def eUn (f : P → Option P) (a : ME) : ME := fun ρ S => (a ρ S).bind fun x S1 => op1 f x S1
def eBin (f : P → P → Option P) (a b : ME) : ME := fun ρ S => (a ρ S).bind fun x S1 => (b ρ S1).bind fun y S2 => op2 f x y S2
def tst (x : Vl) (S : Sto) : Res Bool := match x with
  | .p (.bl b) => .ok b S
  | _ => .bad
def tVal (a : ME) : MT := fun ρ S => (a ρ S).bind tst
def tAndM (a b : MT) : MT := fun ρ S => (a ρ S).bind fun x S1 => match x with
  | true => b ρ S1
  | false => .ok false S1
def tOrM (a b : MT) : MT := fun ρ S => (a ρ S).bind fun x S1 => match x with
  | true => .ok true S1
  | false => b ρ S1
def tNotM (a : MT) : MT := fun ρ S => (a ρ S).bind fun x S1 => .ok (!x) S1
def eAndM (a b : ME) : ME := fun ρ S => (a ρ S).bind fun x S1 => (tst x S1).bind fun c S2 => match c with
  | true => b ρ S2
  | false => .ok (.p (.bl false)) S2
def eOrM (a b : ME) : ME := fun ρ S => (a ρ S).bind fun x S1 => (tst x S1).bind fun c S2 => match c with
  | true => .ok (.p (.bl true)) S2
  | false => b ρ S2
def eNotM (a : ME) : ME := fun ρ S => (a ρ S).bind fun x S1 => (tst x S1).bind fun c S2 => .ok (.p (.bl (!c))) S2
def eIfM (t : MT) (a b : ME) : ME := fun ρ S => (t ρ S).bind fun x S1 => match x with
  | true => a ρ S1
  | false => b ρ S1
def aNil : MA := fun _ S => .ok [] S
def aCons (a : ME) (r : MA) : MA := fun ρ S => (a ρ S).bind fun x S1 => (r ρ S1).bind fun xs S2 => .ok (x :: xs) S2
def frzs (xs : List Vl) (S : Sto) : Res (List P) := seqR frz xs S
@[simp] theorem frz_p (x : P) (S : Sto) : frz (.p x) S = .ok x S := rfl
@[simp] theorem frzs_p : ∀ (xs : List P) (S : Sto), frzs (xs.map Vl.p) S = .ok xs S
  | [], S => rfl
  | x :: xs, S => by
    show ((frz (.p x) S).bind fun y S1 => (frzs (xs.map Vl.p) S1).bind fun ys S2 => Res.ok (y :: ys) S2) = _
    rw [frz_p]
    show ((frzs (xs.map Vl.p) S).bind fun ys S2 => Res.ok (x :: ys) S2) = _
    rw [frzs_p xs S]
    rfl
def eTup (a : MA) : ME := fun ρ S => (a ρ S).bind fun xs S1 => (frzs xs S1).bind fun ys S2 => if ys.length ≤ 100000 then .ok (.p (.tup ys)) S2 else .bad
def eLst (a : MA) : ME := fun ρ S => (a ρ S).bind fun xs S1 => (frzs xs S1).bind fun ys S2 => if ys.length ≤ 100000 then .ok (.p (.lst ys)) S2 else .bad
def eLstC (a : MA) : ME := fun ρ S => (a ρ S).bind fun xs S1 => (frzs xs S1).bind fun ys S2 => if ys.length ≤ 100000 then .ok (.c S2.length) (S2 ++ [.lst ys]) else .bad

def UnOk (K : PySem.W.Frag) (r : V → Hp → VK → Prop) (f : P → Option P) : Prop := ∀ (io : Io) (F : Hp) (S : Sto) (H : Hp) (x : P) (v : V) (z : P) (Q : VK), Sta K io F S H → RepR K F H x v → f x = some z →
  (∀ F' H' u, Nxt io F H io F' H' → Sta K io F' S H' → Rep K F' z u → Q u H') → r v H Q
section
variable {X : Cx} {W : WX} {a b c : Expr} {ma mb mc : ME} {pos : Pos} {ta tb : MT} {es : List Expr} {mas : MA}
theorem Sta.op1 {K : PySem.W.Frag} {io : Io} {F : Hp} {S : Sto} {H : Hp} {r : V → Hp → VK → Prop} {f : P → Option P} {d : Vl} {v : V} {Q : VK} {E : XK} (hf : UnOk K r f) (st : Sta K io F S H) (r1 : RepV K io F d v)
    (h : RG K (RepA K) (Mir.op1 f d S) io F H Q E) : r v H Q := by
  unfold Mir.op1 at h
  cases e1 : Mir.rd S d with
  | none => rw [e1] at h; exact h.elim
  | some x =>
    rw [e1] at h
    dsimp only at h
    cases e3 : f x with
    | none => rw [e3] at h; exact h.elim
    | some z =>
      rw [e3] at h
      exact hf io F S H x v z Q st (st.rd r1 e1) e3 fun F' H' u n s rp => h io F' H' u n s rp
theorem oe_var (i : Nat) {x : Str} (hN : X.N[i]? = some x := by rfl) (hv : Vis X.env.scope x := by first | exact Or.inl rfl | exact Or.inr (Or.inl rfl) | exact Or.inr (Or.inr rfl)) (hd : (x == ("__debug__" : Str)) = false := by decide)
    (hcd : (x == ("__classdict__" : Str)) = false := by decide) : OE X W (.Name x pos) (eVar i) := by
  refine ⟨_, pe_var hN hv hd hcd, fun ρ S io F σ H Q st en h => ?_⟩
  unfold eVar at h
  cases e : ρ[i]? with
  | none => rw [e] at h; exact h.elim
  | some o =>
    cases o with
    | none => rw [e] at h; exact h.elim
    | some d =>
      rw [e] at h
      obtain ⟨v, hv, hr⟩ := en.get e
      exact ⟨v, hv, RG.val st hr h⟩
theorem oe_c {e : Expr} {v : V} {x : P} (h : PE X e (tC v)) (hr : ∀ F, Rep X.K F x v) : OE X W e (eC x) :=
  ⟨_, h, fun ρ S io F σ H Q st en h => RG.val (R := RepA X.K) (d := .p x) st (hr F) h⟩
theorem oe_int {i : Int} {j : Nat} : OE X W (.Constant (.int i) j pos) (eC (.int i)) := oe_c pe_int fun _ => rfl
theorem oe_bl {i : Bool} {j : Nat} : OE X W (.Constant (.bool i) j pos) (eC (.bl i)) := oe_c pe_bl fun _ => rfl
theorem oe_non {j : Nat} : OE X W (.Constant .none j pos) (eC .non) := oe_c pe_non fun _ => rfl
theorem strOf_toList (x : Str) : strOf x.cps.toList = x := by
  unfold strOf
  rw [Array.toArray_toList]
theorem oe_str {x : Str} {j : Nat} {xs : List Nat} (h : x.cps.toList = xs := by rfl) : OE X W (.Constant (.str x) j pos) (eC (.str xs)) := oe_c pe_str fun _ => by
  show V.str x = V.str (strOf xs)
  rw [← h, strOf_toList]
theorem oe_glob {x : Str} {v : V} {u : Value} {p : P} (hm : X.mg x = some u) (r : RelV v u) (hp : ∀ F, Rep X.K F p v) (hg : Gl X x := by rfl) (hd : (x == ("__debug__" : Str)) = false := by decide) : OE X W (.Name x pos) (eC p) := oe_c (pe_glob hg hm r hd) hp
theorem oe_bltn {x : Str} {v : V} {u : Value} {p : P} (hm : X.mg x = none) (hv : bootBuiltins x = some u) (r : RelV v u) (hp : ∀ F, Rep X.K F p v) (hg : Gl X x := by rfl) (hn : x ≠ "__name__" := by decide) (hd : (x == ("__debug__" : Str)) = false := by decide) : OE X W (.Name x pos) (eC p) := oe_c (pe_bltn hg hm hv r hn hd) hp
theorem oe_bin {op : Operator} {r : R2} {f : P → P → Option P} (ho : OpR X (binaryOp op) r) (hf : BinOk X.K r f) (ha : OE X W a ma) (hb : OE X W b mb) : OE X W (.BinOp a op b pos) (eBin f ma mb) := by
  obtain ⟨ta, pa, ha⟩ := ha
  obtain ⟨tb, pb, hb⟩ := hb
  refine ⟨tOp r ta tb, pe_op ho pa pb, fun ρ S io F σ H Q st en h => ?_⟩
  refine ha ρ S io F σ H _ st en (RG.bind h fun d S1 io1 F1 H1 v e1 n1 s1 r1 h1 => ?_)
  refine hb ρ S1 io1 F1 σ H1 _ s1 (en.nxt n1) (RG.bind h1 fun d2 S2 io2 F2 H2 v2 e2 n2 s2 r2 h2 => ?_)
  exact s2.op2 hf (r1.mono n2.han n2.fr) r2 h2
theorem oe_cmp {op : CmpOp} {r : R2} {f : P → P → Option P} (ho : OpR X (compareOp op) r) (hf : BinOk X.K r f) (ha : OE X W a ma) (hb : OE X W b mb) (hm : behindInMarks op b = false := by first | exact nomark _ | rfl) : OE X W (.Compare a [op] [b] pos) (eBin f ma mb) := by
  obtain ⟨ta, pa, ha⟩ := ha
  obtain ⟨tb, pb, hb⟩ := hb
  refine ⟨tOp r ta tb, pe_cmpR ho pa pb hm, fun ρ S io F σ H Q st en h => ?_⟩
  refine ha ρ S io F σ H _ st en (RG.bind h fun d S1 io1 F1 H1 v e1 n1 s1 r1 h1 => ?_)
  refine hb ρ S1 io1 F1 σ H1 _ s1 (en.nxt n1) (RG.bind h1 fun d2 S2 io2 F2 H2 v2 e2 n2 s2 r2 h2 => ?_)
  exact s2.op2 hf (r1.mono n2.han n2.fr) r2 h2
theorem tst_go {K : PySem.W.Frag} {io : Io} {F : Hp} {S : Sto} {H : Hp} {d : Vl} {v : V} {Q : Bool → Hp → Prop} {E : XK} (st : Sta K io F S H) (r1 : RepV K io F d v) (h : RG K RepB (tst d S) io F H Q E) : ∃ k, v = .bl k ∧ Q k H := by
  cases d with
  | c k => exact h.elim
  | p x =>
    cases x with
    | bl b => exact ⟨b, r1, RG.val (R := RepB) (d := b) (v := b) st rfl h⟩
    | _ => exact h.elim
theorem ot_cmp {op : CmpOp} {r : R2} {f : P → P → Option P} (ho : OpR X (compareOp op) r) (hf : BinOk X.K r f) (ha : OE X W a ma) (hb : OE X W b mb) (hm : behindInMarks op b = false := by first | exact nomark _ | rfl) : OT X W (.Compare a [op] [b] pos) (tVal (eBin f ma mb)) := by
  obtain ⟨ta, pa, ha⟩ := ha
  obtain ⟨tb, pb, hb⟩ := hb
  refine ⟨tTest (tOp r ta tb), pt_cmpR ho pa pb hm, fun ρ S io F σ H Q st en h => ?_⟩
  have h : RG X.K RepB ((ma ρ S).bind fun x S1 => ((mb ρ S1).bind fun y S2 => op2 f x y S2).bind tst) io F H Q (fun c d H' => W c d σ H') := by
    unfold tVal eBin at h
    cases q : ma ρ S with
    | ok d S1 => rw [q] at h; exact h
    | exc c x S1 => rw [q] at h; exact h
    | bad => rw [q] at h; exact h
  refine ha ρ S io F σ H _ st en (RG.bind h fun d S1 io1 F1 H1 v e1 n1 s1 r1 h1 => ?_)
  have h1 : RG X.K RepB ((mb ρ S1).bind fun y S2 => (op2 f d y S2).bind tst) io1 F1 H1 Q (fun c d H' => W c d σ H') := by
    cases q : mb ρ S1 with
    | ok d S1 => rw [q] at h1; exact h1
    | exc c x S1 => rw [q] at h1; exact h1
    | bad => rw [q] at h1; exact h1
  refine hb ρ S1 io1 F1 σ H1 _ s1 (en.nxt n1) (RG.bind h1 fun d2 S2 io2 F2 H2 v2 e2 n2 s2 r2 h2 => ?_)
  refine s2.op2 (E := fun c d H' => W c d σ H') hf (r1.mono n2.han n2.fr) r2 (RG.bind h2 fun d3 S3 io3 F3 H3 v3 e3 n3 s3 r3 h3 => ?_)
  exact tst_go s3 r3 h3
theorem ot_val {e : Expr} {m : ME} (he : OE X W e m) (hs : ∀ whole, isTrue e X.env whole = (do let v ← whole; standAt e.pos; holding [v] (truthy v)) := by intro _; rfl) : OT X W e (tVal m) := by
  obtain ⟨t, p, he⟩ := he
  refine ⟨tB t, pt_val p hs, fun ρ S io F σ H Q st en h => ?_⟩
  exact he ρ S io F σ H _ st en (RG.bind h fun d S1 io1 F1 H1 v e1 n1 s1 r1 h1 => tst_go s1 r1 h1)
theorem ot_not (ha : OT X W a ta) : OT X W (.UnaryOp .Not a pos) (tNotM ta) := by
  obtain ⟨t, p, ha⟩ := ha
  refine ⟨_, pt_not p, fun ρ S io F σ H Q st en h => ?_⟩
  refine ha ρ S io F σ H _ st en (RG.bind h fun d S1 io1 F1 H1 v e1 n1 s1 r1 h1 => ?_)
  cases r1
  exact RG.val (R := RepB) (d := !d) (v := !d) s1 rfl h1
def OW (X : Cx) (W : WX) (e : Expr) (m : MT) : Prop := ∃ t, PW X e t ∧ ∀ (ρ : En) (S : Sto) (io : Io) (F : Hp) (σ : St) (H : Hp) (Q : Bool → Hp → Prop), Sta X.K io F S H → Mir.Env X.K io F ρ σ →
  RG X.K RepB (m ρ S) io F H Q (fun c d H' => W c d σ H') → t σ H Q
theorem ot_w {e : Expr} {m : MT} (h : OW X W e m) : OT X W e m := by
  obtain ⟨t, p, h⟩ := h
  exact ⟨t, p.pt, h⟩
theorem ow_or1 (ha : OT X W a ta) : OW X W (.BoolOp .Or [a] pos) ta := by
  obtain ⟨t, p, ha⟩ := ha
  exact ⟨t, pw_or1 p, ha⟩
theorem ow_or {rest : List Expr} (ha : OT X W a ta) (hb : OW X W (.BoolOp .Or (b :: rest) pos) tb) : OW X W (.BoolOp .Or (a :: b :: rest) pos) (tOrM ta tb) := by
  obtain ⟨t, p, ha⟩ := ha
  obtain ⟨u, q, hb⟩ := hb
  refine ⟨_, pw_or p q, fun ρ S io F σ H Q st en h => ?_⟩
  refine ha ρ S io F σ H _ st en (RG.bind h fun d S1 io1 F1 H1 v e1 n1 s1 r1 h1 => ?_)
  cases r1
  cases d with
  | true => exact iteT (RG.val (R := RepB) (d := true) (v := true) s1 rfl h1)
  | false => exact iteF (hb ρ S1 io1 F1 σ H1 Q s1 (en.nxt n1) h1)
theorem oe_if (hc : OT X W c ta) (ha : OE X W a ma) (hb : OE X W b mb) : OE X W (.IfExp c a b pos) (eIfM ta ma mb) := by
  obtain ⟨t, p, hc⟩ := hc
  obtain ⟨u, q, ha⟩ := ha
  obtain ⟨u2, q2, hb⟩ := hb
  refine ⟨_, pe_ifExp p q q2, fun ρ S io F σ H Q st en h => ?_⟩
  refine hc ρ S io F σ H _ st en (RG.bind h fun d S1 io1 F1 H1 v e1 n1 s1 r1 h1 => ?_)
  cases r1
  cases d with
  | true => exact iteT (ha ρ S1 io1 F1 σ H1 Q s1 (en.nxt n1) h1)
  | false => exact iteF (hb ρ S1 io1 F1 σ H1 Q s1 (en.nxt n1) h1)
theorem oe_un {op : UnaryOp} {r : V → Hp → VK → Prop} {f : P → Option P} (ho : UnR X (unaryOp op) r) (hf : UnOk X.K r f) (ha : OE X W a ma) : OE X W (.UnaryOp op a pos) (eUn f ma) := by
  obtain ⟨t, p, ha⟩ := ha
  refine ⟨_, pe_un ho p, fun ρ S io F σ H Q st en h => ?_⟩
  exact ha ρ S io F σ H _ st en (RG.bind h fun d S1 io1 F1 H1 v e1 n1 s1 r1 h1 => s1.op1 hf r1 h1)
theorem oa_nil : OA X W [] aNil := ⟨_, pa_nil, fun ρ S io F σ H Q st en h => RG.val (R := RepAs X.K) (d := []) (v := []) st rfl h⟩
theorem oa_cons (ha : OE X W a ma) (hr : OA X W es mas) (hs : starEach (a :: es) X.env = (false, eval a X.env) :: starEach es X.env := by rfl) : OA X W (a :: es) (aCons ma mas) := by
  obtain ⟨t, p, ha⟩ := ha
  obtain ⟨u, q, hr⟩ := hr
  refine ⟨_, pa_cons p q hs, fun ρ S io F σ H Q st en h => ?_⟩
  refine ha ρ S io F σ H _ st en (RG.bind h fun d S1 io1 F1 H1 v e1 n1 s1 r1 h1 => ?_)
  refine hr ρ S1 io1 F1 σ H1 _ s1 (en.nxt n1) (RG.bind h1 fun d2 S2 io2 F2 H2 v2 e2 n2 s2 r2 h2 => ?_)
  exact RG.val (R := RepAs X.K) (d := d :: d2) s2 ⟨v, v2, rfl, r1.mono n2.han n2.fr, r2⟩ h2
end
section
variable {K : PySem.W.Frag} {io : Io} {F : Hp} {S : Sto} {H : Hp}
theorem Sta.frzs {C D : Type} {R' : Io → Hp → C → D → Prop} {Q : D → Hp → Prop} {E : XK} : ∀ {ds : List Vl} {vs : List V} {F : Hp} {S : Sto} {g : List P → Sto → Res C}, Sta K io F S H → RepVs K io F ds vs → RG K R' ((Mir.frzs ds S).bind g) io F H Q E →
    ∃ xs S' F', Nxt io F H io F' H ∧ Sta K io F' S' H ∧ RepL K F' xs vs ∧ RG K R' (g xs S') io F' H Q E
  | [], vs, F, S, g, st, r, h => by
    have r' : _ = _ := r
    subst r'
    exact ⟨[], S, F, Nxt.refl, st, .nil, h⟩
  | d :: ds, vs, F, S, g, st, ⟨v, r, e1, h1, h2⟩, h => by
    subst e1
    have h : RG K R' ((Mir.frz d S).bind fun y S1 => ((Mir.frzs ds S1).bind fun ys S2 => Res.ok (y :: ys) S2).bind g) io F H Q E := by
      have q : (Mir.frzs (d :: ds) S).bind g = (Mir.frz d S).bind fun y S1 => ((Mir.frzs ds S1).bind fun ys S2 => Res.ok (y :: ys) S2).bind g := by
        show ((Mir.frz d S).bind fun y S1 => (Mir.frzs ds S1).bind fun ys S2 => Res.ok (y :: ys) S2).bind g = _
        cases Mir.frz d S <;> rfl
      rw [← q]; exact h
    obtain ⟨x, S1, F1, n1, s1, rp, hl, h3⟩ := st.frz h1 h
    have h3 : RG K R' ((Mir.frzs ds S1).bind fun ys S2 => g (x :: ys) S2) io F1 H Q E := by
      have q : (Mir.frzs ds S1).bind (fun ys S2 => g (x :: ys) S2) = ((Mir.frzs ds S1).bind fun ys S2 => Res.ok (x :: ys) S2).bind g := by
        cases Mir.frzs ds S1 <;> rfl
      rw [q]; exact h3
    obtain ⟨xs, S2, F2, n2, s2, rps, h4⟩ := Sta.frzs s1 (h2.mono n1.han n1.fr) h3
    exact ⟨x :: xs, S2, F2, n1.trans n2, s2, .cons (Rep.mono n2.fr rp) rps, h4⟩
end
section
variable {X : Cx} {W : WX} {pos : Pos} {es : List Expr} {mas : MA}
theorem sz5 {n : Nat} (h : n ≤ 100000) : n ≤ sizeLine := Nat.le_trans h (by decide)
theorem sz5l {n : Nat} (h : n < 100000) : n < sizeLine := Nat.lt_of_lt_of_le h (by decide)
theorem oe_tup {k : Nat} (h : OA X W es mas) : OE X W (.Tuple es k pos) (eTup mas) := by
  obtain ⟨t, p, h⟩ := h
  refine ⟨_, pe_tup p, fun ρ S io F σ H Q st en hw => ?_⟩
  refine h ρ S io F σ H _ st en (RG.bind hw fun d S1 io1 F1 H1 v e1 n1 s1 r1 h1 => ?_)
  obtain ⟨xs, S2, F2, n2, s2, rp, h2⟩ := s1.frzs r1 h1
  have hlen := rp.length
  by_cases hz : xs.length ≤ 100000
  · rw [if_pos hz] at h2
    refine ⟨by rw [hlen]; exact sz5 hz, fun q hq => ?_⟩
    obtain ⟨s3, n3⟩ := s2.froze (o := .tup v) hq
    exact h2 io1 _ _ (.ref q) n3 s3 ⟨q, v, rfl, SqT.of upd_same, RepL.mono n3.fr rp⟩
  · rw [if_neg hz] at h2
    exact h2.elim
theorem oe_lst (h : OA X W es mas) : OE X W (.List es pos) (eLst mas) := by
  obtain ⟨t, p, h⟩ := h
  refine ⟨_, pe_lst p, fun ρ S io F σ H Q st en hw => ?_⟩
  refine h ρ S io F σ H _ st en (RG.bind hw fun d S1 io1 F1 H1 v e1 n1 s1 r1 h1 => ?_)
  obtain ⟨xs, S2, F2, n2, s2, rp, h2⟩ := s1.frzs r1 h1
  have hlen := rp.length
  by_cases hz : xs.length ≤ 100000
  · rw [if_pos hz] at h2
    refine ⟨by rw [hlen]; exact sz5 hz, fun q hq => ?_⟩
    obtain ⟨s3, n3⟩ := s2.froze (o := .lst v) hq
    exact h2 io1 _ _ (.ref q) n3 s3 ⟨q, v, rfl, upd_same, RepL.mono n3.fr rp⟩
  · rw [if_neg hz] at h2
    exact h2.elim
theorem oe_lstC (h : OA X W es mas) : OE X W (.List es pos) (eLstC mas) := by
  obtain ⟨t, p, h⟩ := h
  refine ⟨_, pe_lst p, fun ρ S io F σ H Q st en hw => ?_⟩
  refine h ρ S io F σ H _ st en (RG.bind hw fun d S1 io1 F1 H1 v e1 n1 s1 r1 h1 => ?_)
  obtain ⟨xs, S2, F2, n2, s2, rp, h2⟩ := s1.frzs r1 h1
  have hlen := rp.length
  by_cases hz : xs.length ≤ 100000
  · rw [if_pos hz] at h2
    refine ⟨by rw [hlen]; exact sz5 hz, fun q hq => ?_⟩
    have hi : (io1 ++ [some q])[S2.length]? = some (some q) := by rw [← s2.len]; simp
    obtain ⟨s3, n3⟩ := s2.push (o := .lst v) (c := .lst xs) hq ⟨q, v, hi, Same.free s2.sub hq, upd_same, rp⟩
    exact h2 _ _ _ (.ref q) n3 s3 ⟨q, hi, rfl⟩
  · rw [if_neg hz] at h2
    exact h2.elim
end
end Mir

namespace Mir
open PySem L2
mutual
def P.dat : P → Nat → Bool
  | .non, _ => true
  | .bl _, _ => true
  | .int _, _ => true
  | .str x, _ => x.all fun c => decide (c < 128)
  | .lst _, 0 => false
  | .lst xs, n + 1 => datL xs n
  | .tup _, 0 => false
  | .tup xs, n + 1 => datL xs n
  | _, _ => false
def datL : List P → Nat → Bool
  | [], _ => true
  | x :: xs, n => x.dat n && datL xs n
end
mutual
def P.toD : P → PyData
  | .non => .none
  | .bl b => .bool b
  | .int i => .int i
  | .str x => .str (strOf x)
  | .lst xs => .list (toDL xs)
  | .tup xs => .tuple (toDL xs)
  | .dct _ _ => .none
  | .dcl _ _ => .none
  | .obj _ _ _ => .none
  | .ty _ => .none
  | .glo _ => .none
  | .raw _ => .none
  | .err _ _ _ => .none
  | .rwp _ _ => .none
  | .scr _ => .none
def toDL : List P → List PyData
  | [] => []
  | x :: xs => x.toD :: toDL xs
end
mutual
def P.eqv : P → P → Bool
  | .non, .non => true
  | .bl a, .bl b => a == b
  | .bl a, .int j => (if a then 1 else 0) == j
  | .int i, .bl b => i == (if b then 1 else 0)
  | .int i, .int j => i == j
  | .str x, .str y => x == y
  | .lst xs, .lst ys => eqvL xs ys
  | .tup xs, .tup ys => eqvL xs ys
  | _, _ => false
def eqvL : List P → List P → Bool
  | [], [] => true
  | x :: xs, y :: ys => x.eqv y && eqvL xs ys
  | _, _ => false
end
section
variable {K : PySem.W.Frag} {F H : Hp}
mutual
theorem Rep.dp : ∀ {x : P} {v : V} {n : Nat}, x.dat n = true → Rep K H x v → Dp K H v x.toD
  | .non, v, n, _, h => by
    have h' : _ = _ := h
    subst h'
    exact .non
  | .bl b, v, n, _, h => by
    have h' : _ = _ := h
    subst h'
    exact .bl b
  | .int b, v, n, _, h => by
    have h' : _ = _ := h
    subst h'
    exact .int b
  | .str b, v, n, _, h => by
    have h' : _ = _ := h
    subst h'
    exact .str _
  | .lst xs, v, n + 1, hd, h => by
    obtain ⟨a, vs, rfl, h1, h2⟩ := h
    exact .lst (SqL.of h1) (RepL.dp hd h2)
  | .tup xs, v, n + 1, hd, h => by
    obtain ⟨a, vs, rfl, h1, h2⟩ := h
    exact .tup h1 (RepL.dp hd h2)
  | .lst xs, v, 0, hd, h => by cases hd
  | .tup xs, v, 0, hd, h => by cases hd
  | .dct _ _, v, n, hd, h => by cases hd
  | .dcl _ _, v, n, hd, h => by cases hd
  | .obj _ _ _, v, n, hd, h => by cases hd
  | .ty _, v, n, hd, h => by cases hd
  | .glo _, v, n, hd, h => by cases hd
  | .raw _, v, n, hd, h => by cases hd
  | .err _ _ _, v, n, hd, h => by cases hd
  | .rwp _ _, v, n, hd, h => by cases hd
  | .scr _, v, n, hd, h => by cases hd
theorem RepL.dp : ∀ {xs : List P} {vs : List V} {n : Nat}, datL xs n = true → RepL K H xs vs → DpAll K H vs (toDL xs)
  | [], vs, n, _, h => by
    have h' : _ = _ := h
    subst h'
    exact .nil
  | x :: xs, vs, n, hd, h => by
    obtain ⟨v, r, e1, h1, h2⟩ := h
    subst e1
    have hd' : (x.dat n && datL xs n) = true := hd
    rw [Bool.and_eq_true] at hd'
    exact .cons (Rep.dp hd'.1 h1) (RepL.dp hd'.2 h2)
end
theorem strOk_of {x : List Nat} (h : (x.all fun c => decide (c < 128)) = true) : (P.str x).toD.canLay0 = true := by
  show PyData.canLay0 (.str (strOf x)) = true
  simp only [PyData.canLay0]
  unfold PyData.strOk strOf
  simp only [List.all_eq_true, decide_eq_true_eq] at h
  simp only [List.all_toArray, List.all_eq_true, decide_eq_true_eq]
  exact fun c hc => Nat.lt_trans (h c hc) (by decide)
mutual
theorem P.lay : ∀ {x : P} {n : Nat}, x.dat n = true → x.toD.canLay0 = true
  | .non, n, _ => rfl
  | .bl b, n, _ => rfl
  | .int b, n, _ => rfl
  | .str b, n, h => strOk_of h
  | .lst xs, n + 1, hd => by
    show PyData.canLay0 (.list (toDL xs)) = true
    simp only [PyData.canLay0]
    exact layL hd
  | .tup xs, n + 1, hd => by
    show PyData.canLay0 (.tuple (toDL xs)) = true
    simp only [PyData.canLay0]
    exact layL hd
  | .lst xs, 0, hd => by cases hd
  | .tup xs, 0, hd => by cases hd
  | .dct _ _, n, hd => by cases hd
  | .dcl _ _, n, hd => by cases hd
  | .obj _ _ _, n, hd => by cases hd
  | .ty _, n, hd => by cases hd
  | .glo _, n, hd => by cases hd
  | .raw _, n, hd => by cases hd
  | .err _ _ _, n, hd => by cases hd
  | .rwp _ _, n, hd => by cases hd
  | .scr _, n, hd => by cases hd
theorem layL : ∀ {xs : List P} {n : Nat}, datL xs n = true → PyData.canLayAll0 (toDL xs) = true
  | [], n, _ => rfl
  | x :: xs, n, hd => by
    have hd' : (x.dat n && datL xs n) = true := hd
    rw [Bool.and_eq_true] at hd'
    show PyData.canLayAll0 (x.toD :: toDL xs) = true
    simp only [PyData.canLayAll0, Bool.and_eq_true]
    exact ⟨P.lay hd'.1, layL hd'.2⟩
end
mutual
theorem P.dep : ∀ {x : P} {n : Nat}, x.dat n = true → x.toD.depth ≤ n
  | .non, n, _ => Nat.zero_le _
  | .bl b, n, _ => Nat.zero_le _
  | .int b, n, _ => Nat.zero_le _
  | .str b, n, _ => Nat.zero_le _
  | .lst xs, n + 1, hd => by
    show PyData.depth (.list (toDL xs)) ≤ n + 1
    have := depL (xs := xs) (n := n) hd
    simp only [PyData.depth]
    omega
  | .tup xs, n + 1, hd => by
    show PyData.depth (.tuple (toDL xs)) ≤ n + 1
    have := depL (xs := xs) (n := n) hd
    simp only [PyData.depth]
    omega
  | .lst xs, 0, hd => by cases hd
  | .tup xs, 0, hd => by cases hd
  | .dct _ _, n, hd => by cases hd
  | .dcl _ _, n, hd => by cases hd
  | .obj _ _ _, n, hd => by cases hd
  | .ty _, n, hd => by cases hd
  | .glo _, n, hd => by cases hd
  | .raw _, n, hd => by cases hd
  | .err _ _ _, n, hd => by cases hd
  | .rwp _ _, n, hd => by cases hd
  | .scr _, n, hd => by cases hd
theorem depL : ∀ {xs : List P} {n : Nat}, datL xs n = true → PyData.depthAll (toDL xs) ≤ n
  | [], n, _ => Nat.zero_le _
  | x :: xs, n, hd => by
    have hd' : (x.dat n && datL xs n) = true := hd
    rw [Bool.and_eq_true] at hd'
    have h1 := P.dep hd'.1
    have h2 := depL hd'.2
    show PyData.depthAll (x.toD :: toDL xs) ≤ n
    simp only [PyData.depthAll]
    omega
end
theorem P.shp {x : P} {n : Nat} (hn : n ≤ 64) (h : x.dat n = true) : SeqAt.shaped x.toD = true := by
  unfold SeqAt.shaped
  rw [P.lay h, decide_eq_true (Nat.le_trans (P.dep h) hn)]
  rfl
theorem strOf_beq (x y : List Nat) : (strOf x == strOf y) = (x == y) := by
  by_cases h : x = y
  · subst h; simp
  · have h1 : strOf x ≠ strOf y := fun q => h (by
      have q' := congrArg (fun z : Str => z.cps.toList) q
      simpa [strOf] using q')
    rw [beq_eq_false_iff_ne.mpr h1, beq_eq_false_iff_ne.mpr h]
mutual
theorem P.eqD : ∀ {x y : P} {n m : Nat}, x.dat n = true → y.dat m = true → PyData.eqv x.toD y.toD = x.eqv y
  | .non, y, n, m, h1, h2 => by cases y <;> first | rfl | (cases h2)
  | .bl a, y, n, m, h1, h2 => by cases y <;> first | rfl | (cases h2)
  | .int a, y, n, m, h1, h2 => by cases y <;> first | rfl | (cases h2)
  | .str a, y, n, m, h1, h2 => by
    cases y with
    | str b => exact strOf_beq a b
    | non => rfl
    | bl _ => rfl
    | int _ => rfl
    | lst _ => rfl
    | tup _ => rfl
    | _ => cases h2
  | .lst xs, y, n + 1, m, h1, h2 => by
    cases y with
    | lst ys =>
      cases m with
      | zero => cases h2
      | succ m => exact eqDL h1 h2
    | non => rfl
    | bl _ => rfl
    | int _ => rfl
    | str _ => rfl
    | tup _ => rfl
    | _ => cases h2
  | .tup xs, y, n + 1, m, h1, h2 => by
    cases y with
    | tup ys =>
      cases m with
      | zero => cases h2
      | succ m => exact eqDL h1 h2
    | non => rfl
    | bl _ => rfl
    | int _ => rfl
    | str _ => rfl
    | lst _ => rfl
    | _ => cases h2
  | .lst xs, y, 0, m, h1, h2 => by cases h1
  | .tup xs, y, 0, m, h1, h2 => by cases h1
  | .dct _ _, y, n, m, h1, h2 => by cases h1
  | .dcl _ _, y, n, m, h1, h2 => by cases h1
  | .obj _ _ _, y, n, m, h1, h2 => by cases h1
  | .ty _, y, n, m, h1, h2 => by cases h1
  | .glo _, y, n, m, h1, h2 => by cases h1
  | .raw _, y, n, m, h1, h2 => by cases h1
  | .err _ _ _, y, n, m, h1, h2 => by cases h1
  | .rwp _ _, y, n, m, h1, h2 => by cases h1
  | .scr _, y, n, m, h1, h2 => by cases h1
theorem eqDL : ∀ {xs ys : List P} {n m : Nat}, datL xs n = true → datL ys m = true → PyData.eqvAll (toDL xs) (toDL ys) = eqvL xs ys
  | [], [], n, m, _, _ => rfl
  | [], y :: ys, n, m, _, _ => rfl
  | x :: xs, [], n, m, _, _ => rfl
  | x :: xs, y :: ys, n, m, h1, h2 => by
    have h1' : (x.dat n && datL xs n) = true := h1
    have h2' : (y.dat m && datL ys m) = true := h2
    rw [Bool.and_eq_true] at h1' h2'
    show (PyData.eqv x.toD y.toD && PyData.eqvAll (toDL xs) (toDL ys)) = (x.eqv y && eqvL xs ys)
    rw [P.eqD h1'.1 h2'.1, eqDL h1'.2 h2'.2]
end
end
def pEq (x y : P) : Option P := if x.dat 60 && y.dat 60 then some (.bl (x.eqv y)) else none
def pNe (x y : P) : Option P := if x.dat 60 && y.dat 60 then some (.bl (!x.eqv y)) else none
section
variable {X : Cx} {W : WX} {a b c : Expr} {ma mb mc : ME} {pos : Pos}
theorem ok_eqD {K : PySem.W.Frag} : BinOk K (rEqD K) pEq := by
  intro io F S H x y v w z Q st rx ry e k
  unfold pEq at e
  split at e
  · rename_i hd
    rw [Bool.and_eq_true] at hd
    cases e
    refine ⟨x.toD, y.toD, Rep.dp hd.1 (rx.now st.sub), Rep.dp hd.2 (ry.now st.sub), P.shp (by decide) hd.1, P.shp (by decide) hd.2, ?_⟩
    rw [P.eqD hd.1 hd.2]
    exact k F H _ Nxt.refl st rfl
  · cases e
theorem ok_neD {K : PySem.W.Frag} : BinOk K (rNeD K) pNe := by
  intro io F S H x y v w z Q st rx ry e k
  unfold pNe at e
  split at e
  · rename_i hd
    rw [Bool.and_eq_true] at hd
    cases e
    refine ⟨x.toD, y.toD, Rep.dp hd.1 (rx.now st.sub), Rep.dp hd.2 (ry.now st.sub), P.shp (by decide) hd.1, P.shp (by decide) hd.2, ?_⟩
    rw [P.eqD hd.1 hd.2]
    exact k F H _ Nxt.refl st rfl
  · cases e
theorem oe_eq {k : Nat} (hr : Room k X.A) (ha : OE X W a ma) (hb : OE X W b mb) : OE X W (.Compare a [.Eq] [b] pos) (eBin pEq ma mb) := oe_cmp (op_eqD hr.units) ok_eqD ha hb (nomark _)
theorem ot_ne {k : Nat} (hr : Room k X.A) (ha : OE X W a ma) (hb : OE X W b mb) : OT X W (.Compare a [.NotEq] [b] pos) (tVal (eBin pNe ma mb)) := ot_cmp (op_neD hr.units) ok_neD ha hb (nomark _)
end
def int2 (f : Int → Int → Option P) (x y : P) : Option P := match x with
  | .int i => (match y with
    | .int j => f i j
    | _ => none)
  | _ => none
def pI (g : Int → Int → Int) : P → P → Option P := int2 fun i j => some (.int (g i j))
def pIC (C : Int → Int → Bool) (g : Int → Int → Int) : P → P → Option P := int2 fun i j => if C i j then some (.int (g i j)) else none
def pIB (g : Int → Int → Bool) : P → P → Option P := int2 fun i j => some (.bl (g i j))
section
variable {K : PySem.W.Frag} {F : Hp} {H : Hp}
theorem two_int {x y : P} {v w : V} {z : P} {f : Int → Int → Option P} (rx : RepR K F H x v) (ry : RepR K F H y w) (e : int2 f x y = some z) : ∃ i j, v = .int i ∧ w = .int j ∧ f i j = some z := by
  cases x with
  | int i =>
    cases y with
    | int j => exact ⟨i, j, rx, ry, e⟩
    | _ => cases e
  | _ => cases e
theorem ok_B0 {g : Int → Int → Bool} : BinOk K (rI0 fun i j => .bl (g i j)) (pIB g) := by
  intro io F S H x y v w z Q st rx ry e k
  obtain ⟨i, j, rfl, rfl, e⟩ := two_int rx ry e
  cases e
  exact ⟨i, j, rfl, rfl, k F H _ Nxt.refl st rfl⟩
theorem ok_IC {C : Int → Int → Prop} {B : Int → Int → Bool} {g : Int → Int → Int} (hB : ∀ i j, B i j = true → C i j) : BinOk K (rI C fun i j => .int (g i j)) (pIC B g) := by
  intro io F S H x y v w z Q st rx ry e k
  obtain ⟨i, j, rfl, rfl, e⟩ := two_int rx ry e
  split at e
  · rename_i hb
    cases e
    exact ⟨i, j, rfl, rfl, hB i j hb, k F H _ Nxt.refl st rfl⟩
  · cases e
end
def bMul (i j : Int) : Bool := (decide (-(2 ^ 64) < i) && decide (i < 2 ^ 64)) || (decide (-(2 ^ 64) < j) && decide (j < 2 ^ 64))
def bDiv (_ j : Int) : Bool := decide (0 < j) && decide (j < 1073741824)
def bPow (i j : Int) : Bool := decide (0 ≤ j) && (decide (j ≤ 1000000) && decide (i.natAbs < 2 ^ 64))
def bMod (_ j : Int) : Bool := decide (0 < j)
def bShr (_ j : Int) : Bool := decide (0 ≤ j)
theorem bMul_ok (i j : Int) (h : bMul i j = true) : CMul i j := by
  unfold bMul at h
  simp only [Bool.or_eq_true, Bool.and_eq_true, decide_eq_true_eq] at h
  exact h
theorem bDiv_ok (i j : Int) (h : bDiv i j = true) : CDiv i j := by
  unfold bDiv at h
  simp only [Bool.and_eq_true, decide_eq_true_eq] at h
  exact h
theorem bPow_ok (i j : Int) (h : bPow i j = true) : CPow i j := by
  unfold bPow at h
  simp only [Bool.and_eq_true, decide_eq_true_eq] at h
  exact h
def pAdd : P → P → Option P
  | .int i, .int j => some (.int (i + j))
  | .str x, .str y => if x.length + y.length ≤ 100000 then some (.str (x ++ y)) else none
  | .lst x, .lst y => if x.length + y.length ≤ 100000 then some (.lst (x ++ y)) else none
  | .tup x, .tup y => if x.length + y.length ≤ 100000 then some (.tup (x ++ y)) else none
  | _, _ => none
def rAddAny (K : PySem.W.Frag) : R2 := fun x y H Q => ((rI0 fun i j => .int (i + j)) x y H Q ∨ (fun x y H Q => ∃ i j, x = V.str i ∧ y = V.str j ∧ i.length + j.length ≤ sizeLine ∧ Q (V.str (i ++ j)) H) x y H Q) ∨ (rCat x y H Q ∨ rCatA K x y H Q)
theorem op_addAny {X : Cx} : OpR X (binaryOp .Add) (rAddAny X.K) := OpR.or (OpR.or op_add op_add_str) (OpR.or op_cat op_catA)
theorem strOf_length (x : List Nat) : (strOf x).length = x.length := by
  show x.toArray.size = x.length
  simp
theorem strOf_append (x y : List Nat) : strOf x ++ strOf y = strOf (x ++ y) := by
  show (⟨x.toArray ++ y.toArray⟩ : Str) = ⟨(x ++ y).toArray⟩
  simp
section
variable {K : PySem.W.Frag}
theorem ok_add : BinOk K (rAddAny K) pAdd := by
  intro io F S H x y v w z Q st rx ry e k
  cases x with
  | int i =>
    cases y with
    | int j =>
      cases e
      have rx : _ = _ := rx
      have ry : _ = _ := ry
      subst rx; subst ry
      exact .inl (.inl ⟨i, j, rfl, rfl, k F H _ Nxt.refl st rfl⟩)
    | _ => cases e
  | str i =>
    cases y with
    | str j =>
      have e : (if i.length + j.length ≤ 100000 then some (P.str (i ++ j)) else none) = some z := e
      split at e
      · rename_i hz
        cases e
        have rx : _ = _ := rx
        have ry : _ = _ := ry
        subst rx; subst ry
        refine .inl (.inr ⟨_, _, rfl, rfl, by rw [strOf_length, strOf_length]; exact sz5 hz, ?_⟩)
        rw [strOf_append]
        exact k F H _ Nxt.refl st rfl
      · cases e
    | _ => cases e
  | lst i =>
    cases y with
    | lst j =>
      have e : (if i.length + j.length ≤ 100000 then some (P.lst (i ++ j)) else none) = some z := e
      split at e
      · rename_i hz
        cases e
        obtain ⟨a, vs, rfl, ha, ra⟩ := rx
        obtain ⟨b, ws, rfl, hb, rb⟩ := ry
        refine .inr (.inl ⟨a, b, vs, ws, rfl, rfl, ha, hb, by rw [ra.length, rb.length]; exact sz5 hz, fun p hp => ?_⟩)
        obtain ⟨s3, n3⟩ := st.froze (o := .lst (vs ++ ws)) hp
        exact k _ _ _ n3 s3 ⟨p, _, rfl, upd_same, RepL.mono n3.fr (ra.append rb)⟩
      · cases e
    | _ => cases e
  | tup i =>
    cases y with
    | tup j =>
      have e : (if i.length + j.length ≤ 100000 then some (P.tup (i ++ j)) else none) = some z := e
      split at e
      · rename_i hz
        cases e
        obtain ⟨a, vs, rfl, ha, ra⟩ := rx
        obtain ⟨b, ws, rfl, hb, rb⟩ := ry
        have l1 := ra.length
        have l2 := rb.length
        refine .inr (.inr ⟨a, b, vs, ws, rfl, rfl, sqt_mono st.sub ha, sqt_mono st.sub hb, by rw [l1, l2]; exact sz5 hz, fun h0 => ?_, fun h0 h1 => ?_, fun h0 h1 p hp => ?_⟩)
        · subst h0
          have : i = [] := List.length_eq_zero_iff.mp l1.symm
          subst this
          exact k F H _ Nxt.refl st ⟨b, ws, rfl, hb, rb⟩
        · subst h1
          have : j = [] := List.length_eq_zero_iff.mp l2.symm
          subst this
          rw [List.append_nil] at k
          exact k F H _ Nxt.refl st ⟨a, vs, rfl, ha, ra⟩
        · obtain ⟨s3, n3⟩ := st.froze (o := .tup (vs ++ ws)) hp
          exact k _ _ _ n3 s3 ⟨p, _, rfl, SqT.of upd_same, RepL.mono n3.fr (ra.append rb)⟩
      · cases e
    | _ => cases e
  | _ => cases e
end
section
variable {X : Cx} {W : WX} {a b c : Expr} {ma mb mc : ME} {pos : Pos}
theorem oe_add (ha : OE X W a ma) (hb : OE X W b mb) : OE X W (.BinOp a .Add b pos) (eBin pAdd ma mb) := oe_bin op_addAny ok_add ha hb
theorem oe_fdiv (ha : OE X W a ma) (hb : OE X W b mb) : OE X W (.BinOp a .FloorDiv b pos) (eBin (pIC bDiv fun i j => i / j) ma mb) := oe_bin op_fdiv (ok_IC bDiv_ok) ha hb
theorem oe_mod (ha : OE X W a ma) (hb : OE X W b mb) : OE X W (.BinOp a .Mod b pos) (eBin (pIC bMod fun i j => i % j) ma mb) := oe_bin op_mod (ok_IC fun _ _ h => of_decide_eq_true h) ha hb
theorem oe_pow (ha : OE X W a ma) (hb : OE X W b mb) : OE X W (.BinOp a .Pow b pos) (eBin (pIC bPow fun i j => i ^ j.toNat) ma mb) := oe_bin op_pow (ok_IC bPow_ok) ha hb
theorem ot_lt (ha : OE X W a ma) (hb : OE X W b mb) : OT X W (.Compare a [.Lt] [b] pos) (tVal (eBin (pIB fun i j => decide (i < j)) ma mb)) := ot_cmp op_lt ok_B0 ha hb (nomark _)
theorem ot_gt (ha : OE X W a ma) (hb : OE X W b mb) : OT X W (.Compare a [.Gt] [b] pos) (tVal (eBin (pIB fun i j => decide (j < i)) ma mb)) := ot_cmp op_gt ok_B0 ha hb (nomark _)
theorem ot_ge (ha : OE X W a ma) (hb : OE X W b mb) : OT X W (.Compare a [.GtE] [b] pos) (tVal (eBin (pIB fun i j => decide (j ≤ i)) ma mb)) := ot_cmp op_ge ok_B0 ha hb (nomark _)
def pNeg : P → Option P
  | .int i => some (.int (-i))
  | _ => none
def pInv : P → Option P
  | .int i => some (.int (Builtin.bitNot i))
  | _ => none
theorem ok_neg {K : PySem.W.Frag} : UnOk K (rU fun i => .int (-i)) pNeg := by
  intro io F S H x v z Q st rx e k
  cases x with
  | int i =>
    cases e
    exact ⟨i, rx, k F H _ Nxt.refl st rfl⟩
  | _ => cases e
theorem oe_neg (ha : OE X W a ma) : OE X W (.UnaryOp .USub a pos) (eUn pNeg ma) := oe_un un_neg ok_neg ha
def isN (x : Vl) : Bool := match x with
  | .p .non => true
  | _ => false
def eIsN (a : ME) : ME := fun ρ S => (a ρ S).bind fun x S1 => .ok (.p (.bl (isN x))) S1
def eNotN (a : ME) : ME := fun ρ S => (a ρ S).bind fun x S1 => .ok (.p (.bl (!isN x))) S1
end
end Mir

namespace Mir
open PySem L2
def rds (S : Sto) : List Vl → Option (List P)
  | [] => some []
  | d :: ds => (rd S d).bind fun x => (rds S ds).bind fun xs => some (x :: xs)
def call1 (f : List P → Option P) (ds : List Vl) (S : Sto) : Res Vl := match rds S ds with
  | some xs => (match f xs with
    | some z => .ok (.p z) S
    | none => .bad)
  | none => .bad
def eCall (f : List P → Option P) (a : MA) : ME := fun ρ S => (a ρ S).bind fun ds S1 => call1 f ds S1
def CallOk (K : PySem.W.Frag) (r : List V → Hp → VK → Prop) (f : List P → Option P) : Prop := ∀ (io : Io) (F : Hp) (S : Sto) (H : Hp) (xs : List P) (vs : List V) (z : P) (Q : VK), Sta K io F S H → RepRs K F H xs vs → f xs = some z →
  (∀ F' H' u, Nxt io F H io F' H' → Sta K io F' S H' → Rep K F' z u → Q u H') → r vs H Q
section
variable {K : PySem.W.Frag} {io : Io} {F : Hp} {S : Sto} {H : Hp}
theorem Sta.rds (st : Sta K io F S H) : ∀ {ds : List Vl} {vs : List V} {xs : List P}, RepVs K io F ds vs → Mir.rds S ds = some xs → RepRs K F H xs vs
  | [], vs, xs, h, e => by
    have e' : [] = xs := Option.some.inj e
    subst e'
    exact h
  | d :: ds, vs, xs, ⟨v, r, e1, h1, h2⟩, e => by
    subst e1
    have e : ((Mir.rd S d).bind fun x => (Mir.rds S ds).bind fun xs => some (x :: xs)) = some xs := e
    cases q : Mir.rd S d with
    | none => rw [q] at e; cases e
    | some x =>
      rw [q] at e
      cases q2 : Mir.rds S ds with
      | none => rw [q2] at e; cases e
      | some ys =>
        rw [q2] at e
        have e' : x :: ys = xs := Option.some.inj e
        subst e'
        exact ⟨v, r, rfl, st.rd h1 q, Sta.rds st h2 q2⟩
theorem Sta.call1 {r : List V → Hp → VK → Prop} {f : List P → Option P} {ds : List Vl} {vs : List V} {Q : VK} {E : XK} (hf : CallOk K r f) (st : Sta K io F S H) (r1 : RepVs K io F ds vs)
    (h : RG K (RepA K) (Mir.call1 f ds S) io F H Q E) : r vs H Q := by
  unfold Mir.call1 at h
  cases e1 : Mir.rds S ds with
  | none => rw [e1] at h; exact h.elim
  | some x =>
    rw [e1] at h
    dsimp only at h
    cases e3 : f x with
    | none => rw [e3] at h; exact h.elim
    | some z =>
      rw [e3] at h
      exact hf io F S H x vs z Q st (st.rds r1 e1) e3 fun F' H' u n s rp => h io F' H' u n s rp
end
section
variable {X : Cx} {W : WX} {a b c e o : Expr} {ma mb mc mo : ME} {pos : Pos} {es : List Expr} {mas : MA}
theorem oe_callB {x : Str} {id : String} {p : Pos} {r : List V → Hp → VK → Prop} {f : List P → Option P} (hc : CallR X (.builtin id) r) (hf : CallOk X.K r f) (hm : X.mg x = none) (hv : bootBuiltins x = some (.builtin id)) (ha : OA X W (e :: es) mas)
    (hg : Gl X x := by rfl) (hn : x ≠ "__name__" := by decide) (hdb : (x == ("__debug__" : Str)) = false := by decide) (hs : starEach (e :: es) X.env = (false, eval e X.env) :: starEach es X.env := by rfl) (hplain : (backTo pos (starEach es X.env)).any (·.1) = false := by rfl) :
    OE X W (.Call (.Name x p) (e :: es) [] pos) (eCall f mas) := by
  obtain ⟨t, q, ha⟩ := ha
  refine ⟨_, pe_callB hc hg hm hv q hn hdb hs hplain, fun ρ S io F σ H Q st en h => ?_⟩
  exact ha ρ S io F σ H _ st en (RG.bind h fun d S1 io1 F1 H1 v e1 n1 s1 r1 h1 => s1.call1 hf r1 h1)
theorem oe_callTy {x : Str} {T : String} {p : Pos} {r : List V → Hp → VK → Prop} {f : List P → Option P} (hc : CallR X (.type T) r) (hf : CallOk X.K r f) (hm : X.mg x = none) (hv : bootBuiltins x = some (.type T)) (ha : OA X W (e :: es) mas)
    (hg : Gl X x := by rfl) (hn : x ≠ "__name__" := by decide) (hdb : (x == ("__debug__" : Str)) = false := by decide) (hs : starEach (e :: es) X.env = (false, eval e X.env) :: starEach es X.env := by rfl) (hplain : (backTo pos (starEach es X.env)).any (·.1) = false := by rfl) :
    OE X W (.Call (.Name x p) (e :: es) [] pos) (eCall f mas) := by
  obtain ⟨t, q, ha⟩ := ha
  refine ⟨_, pe_callTy hc hg hm hv q hn hdb hs hplain, fun ρ S io F σ H Q st en h => ?_⟩
  exact ha ρ S io F σ H _ st en (RG.bind h fun d S1 io1 F1 H1 v e1 n1 s1 r1 h1 => s1.call1 hf r1 h1)
def tyP (T : String) : P → Bool
  | .str _ => T == "str"
  | .int _ => T == "int"
  | .lst _ => T == "list"
  | .dct _ _ => T == "dict"
  | _ => false
theorem tyP_ok {K : PySem.W.Frag} {F H : Hp} {T : String} {x : P} {v : V} (h : tyP T x = true) (r : RepR K F H x v) : tyV K T v H := by
  cases x with
  | str _ =>
    have r : _ = _ := r
    subst r
    have h' : (T == "str") = true := h
    exact eq_of_beq h'
  | int _ =>
    have r : _ = _ := r
    subst r
    have h' : (T == "int") = true := h
    exact eq_of_beq h'
  | lst _ =>
    obtain ⟨a, vs, rfl, h1, _⟩ := r
    have h' : (T == "list") = true := h
    exact .inl ⟨eq_of_beq h', vs, SqL.of h1⟩
  | dct _ _ =>
    obtain ⟨a, vs, rfl, h1, _⟩ := r
    have h' : (T == "dict") = true := h
    exact .inr (.inr (.inl ⟨eq_of_beq h', .inl ⟨vs, h1⟩⟩))
  | _ => cases h
def rM (r : V → List V → Hp → VK → Prop) : List V → Hp → VK → Prop := fun vs H Q => match vs with
  | x :: xs => r x xs H Q
  | [] => False
def eMthT (T : String) (f : P → List P → Option P) (o : ME) (a : MA) : ME := fun ρ S => (o ρ S).bind fun d S1 => match rd S1 d with
  | some x => if tyP T x then (a ρ S1).bind fun ds S2 => call1 (fun xs => match xs with
    | x :: r => f x r
    | [] => none) (d :: ds) S2 else .bad
  | none => .bad
theorem oe_bm {T id : String} {name : Str} {apos : Pos} {r : V → List V → Hp → VK → Prop} {f : P → List P → Option P} (pa : PlainAttrs T) (slot : Slot T name id) (hty : typeOf (.builtin id) = pure (.type "method_descriptor")) (hm : MtR X id r)
    (hf : CallOk X.K (rM r) fun xs => match xs with
      | x :: r => f x r
      | [] => none) (ho : OE X W o mo) (ha : OA X W (e :: es) mas)
    (hbase : attributeBase o name X.env (eval o X.env) = eval o X.env := by rfl)
    (hfew : ((backTo pos (starEach (e :: es) X.env)).all (fun x => !x.1) && (backToKw pos (keywordEach [] X.env)).all (fun x => x.1.isSome)
      && decide ((e :: es).length + ([] : List Keyword).length + (if ([] : List Keyword).isEmpty then 0 else 1) < 30)) = true := by rfl)
    (hline : (apos.endLine == pos.line) = true := by rfl) (hs : starEach (e :: es) X.env = (false, eval e X.env) :: starEach es X.env := by rfl) (hplain : (backTo pos (starEach es X.env)).any (·.1) = false := by rfl) :
    OE X W (.Call (.Attribute o name apos) (e :: es) [] pos) (eMthT T f mo mas) := by
  obtain ⟨u, p, ho⟩ := ho
  obtain ⟨t, q, ha⟩ := ha
  refine ⟨_, pe_bm pa slot hty hm p q hbase hfew hline hs hplain, fun ρ S io F σ H Q st en h => ?_⟩
  refine ho ρ S io F σ H _ st en (RG.bind h fun d S1 io1 F1 H1 v e1 n1 s1 r1 h1 => ?_)
  cases q1 : rd S1 d with
  | none => rw [q1] at h1; exact h1.elim
  | some x =>
    rw [q1] at h1
    dsimp only at h1
    by_cases q2 : tyP T x = true
    · rw [if_pos q2] at h1
      refine ⟨tyP_ok q2 (s1.rd r1 q1), ?_⟩
      refine ha ρ S1 io1 F1 σ H1 _ s1 (en.nxt n1) (RG.bind h1 fun d2 S2 io2 F2 H2 v2 e2 n2 s2 r2 h2 => ?_)
      exact s2.call1 hf (ds := d :: d2) (vs := v :: v2) ⟨v, v2, rfl, r1.mono n2.han n2.fr, r2⟩ h2
    · rw [if_neg q2] at h1
      exact h1.elim
def pIx : P → P → Option P
  | .lst xs, .int i => atI xs i
  | .scr xs, .int i => atI xs i
  | .tup xs, .int i => atI xs i
  | .str x, .int i => if x.length ≤ 100000 then (atI x i).map fun c => .str [c] else none
  | _, _ => none
theorem atI_rep {K : PySem.W.Frag} {F : Hp} {xs : List P} {vs : List V} {i : Int} {z : P} (r : RepL K F xs vs) (e : atI xs i = some z) : ∃ v, atI vs i = some v ∧ Rep K F z v := by
  obtain ⟨j, h1, h2, h3, h4, h5⟩ := atI_get e
  obtain ⟨v, hv, hr⟩ := r.get h2
  refine ⟨v, ?_, hr⟩
  unfold atI at e ⊢
  rw [r.length]
  cases q : ixN xs.length i with
  | none => rw [q] at e; cases e
  | some k =>
    rw [q] at e
    have e : xs[k]? = some z := e
    obtain ⟨w, hw, hrw⟩ := r.get e
    have q2 := (ixN_seq q).1
    rw [h1] at q2
    cases q2
    show vs[j]? = some v
    exact hv
theorem ok_ix {K : PySem.W.Frag} : BinOk K (fun x y H Q => (rIxL K x y H Q ∨ rIxT K x y H Q) ∨ rIxS x y H Q) pIx := by
  intro io F S H x y v w z Q st rx ry e k
  cases y with
  | int i =>
    have ry : _ = _ := ry
    subst ry
    cases x with
    | lst xs =>
      obtain ⟨a, vs, rfl, ha, ra⟩ := rx
      obtain ⟨u, hu, hr⟩ := atI_rep ra e
      exact .inl (.inl ⟨a, vs, i, u, rfl, rfl, SqL.of ha, hu, k F H u Nxt.refl st hr⟩)
    | scr xs =>
      obtain ⟨a, vs, rfl, ha, ra⟩ := rx
      obtain ⟨u, hu, hr⟩ := atI_rep ra e
      exact .inl (.inl ⟨a, vs, i, u, rfl, rfl, sql_mono st.sub ha, hu, k F H u Nxt.refl st hr⟩)
    | tup xs =>
      obtain ⟨a, vs, rfl, ha, ra⟩ := rx
      obtain ⟨u, hu, hr⟩ := atI_rep ra e
      exact .inl (.inr ⟨a, vs, i, u, rfl, rfl, sqt_mono st.sub ha, hu, k F H u Nxt.refl st hr⟩)
    | str xs =>
      have rx : _ = _ := rx
      subst rx
      have e : (if xs.length ≤ 100000 then (atI xs i).map fun c => P.str [c] else none) = some z := e
      split at e
      · rename_i hz
        cases q : atI xs i with
        | none => rw [q] at e; cases e
        | some c =>
          rw [q] at e
          have e' : P.str [c] = z := Option.some.inj e
          subst e'
          exact .inr ⟨_, i, c, rfl, rfl, by rw [strOf_length]; exact sz5 hz, by show atI xs i = some c; exact q, k F H _ Nxt.refl st rfl⟩
      · cases e
    | _ => cases e
  | _ => cases x <;> cases e
def OO (X : Cx) (W : WX) (e : Option Expr) (m : En → Sto → Res (Option Int)) : Prop := ∃ t, PO X e t ∧ ∀ (ρ : En) (S : Sto) (io : Io) (F : Hp) (σ : St) (H : Hp) (Q : Option Int → Hp → Prop), Sta X.K io F S H → Mir.Env X.K io F ρ σ →
  RG X.K (fun _ _ a b => a = b) (m ρ S) io F H Q (fun c d H' => W c d σ H') → t σ H Q
def oNo : En → Sto → Res (Option Int) := fun _ S => .ok none S
def intV (d : Vl) (S : Sto) : Res (Option Int) := match d with
  | .p (.int i) => .ok (some i) S
  | _ => .bad
def oYes (m : ME) : En → Sto → Res (Option Int) := fun ρ S => (m ρ S).bind intV
theorem oo_none : OO X W none oNo := ⟨_, po_none, fun ρ S io F σ H Q st en h => RG.val (R := fun _ _ a b => a = b) (d := (none : Option Int)) (v := none) st rfl h⟩
theorem oo_some (he : OE X W e ma) : OO X W (some e) (oYes ma) := by
  obtain ⟨t, p, he⟩ := he
  refine ⟨_, po_some p, fun ρ S io F σ H Q st en h => ?_⟩
  refine he ρ S io F σ H _ st en (RG.bind h fun d S1 io1 F1 H1 v e1 n1 s1 r1 h1 => ?_)
  cases d with
  | c k => exact h1.elim
  | p x =>
    cases x with
    | int i => exact ⟨i, r1, RG.val (R := fun _ _ a b => a = b) (d := some i) (v := some i) s1 rfl h1⟩
    | _ => exact h1.elim
def cutP {A : Type} (xs : List A) (lo hi : Option Int) : List A := (xs.drop (HT.sIx xs.length 0 lo)).take (HT.sIx xs.length xs.length hi - HT.sIx xs.length 0 lo)
def pSl (lo hi : Option Int) : P → Option P
  | .lst xs => some (.lst (cutP xs lo hi))
  | .scr xs => some (.lst (cutP xs lo hi))
  | .tup xs => some (.tup (cutP xs lo hi))
  | .str x => if x.length ≤ 100000 then some (.str (cutP x lo hi)) else none
  | _ => none
def eSl (m : ME) (l h : En → Sto → Res (Option Int)) : ME := fun ρ S => (m ρ S).bind fun d S1 => (l ρ S1).bind fun lo S2 => (h ρ S2).bind fun hi S3 => op1 (pSl lo hi) d S3
theorem cutP_rep {K : PySem.W.Frag} {F : Hp} {xs : List P} {vs : List V} (r : RepL K F xs vs) (lo hi : Option Int) : RepL K F (cutP xs lo hi) (cutV vs lo hi) := by
  unfold cutP cutV
  rw [r.length]
  exact (r.drop _).take _
theorem ok_sl {K : PySem.W.Frag} {lo hi : Option Int} : UnOk K (fun x H Q => (rSlL K x lo hi H Q ∨ rSlA K x lo hi H Q) ∨ rSlS x lo hi H Q) (pSl lo hi) := by
  intro io F S H x v z Q st rx e k
  cases x with
  | lst xs =>
    cases e
    obtain ⟨a, vs, rfl, ha, ra⟩ := rx
    refine .inl (.inl ⟨a, vs, rfl, SqL.of ha, fun p hp => ?_⟩)
    obtain ⟨s3, n3⟩ := st.froze (o := .lst (cutV vs lo hi)) hp
    exact k _ _ _ n3 s3 ⟨p, _, rfl, upd_same, RepL.mono n3.fr (cutP_rep ra lo hi)⟩
  | scr xs =>
    cases e
    obtain ⟨a, vs, rfl, ha, ra⟩ := rx
    refine .inl (.inl ⟨a, vs, rfl, sql_mono st.sub ha, fun p hp => ?_⟩)
    obtain ⟨s3, n3⟩ := st.froze (o := .lst (cutV vs lo hi)) hp
    exact k _ _ _ n3 s3 ⟨p, _, rfl, upd_same, RepL.mono n3.fr (cutP_rep ra lo hi)⟩
  | tup xs =>
    cases e
    obtain ⟨a, vs, rfl, ha, ra⟩ := rx
    refine .inl (.inr ⟨a, vs, rfl, sqt_mono st.sub ha, fun hw => ?_, fun hw p hp => ?_⟩)
    · have hx : cutP xs lo hi = xs := by
        unfold cutP
        rw [← ra.length, hw.1, hw.2, ra.length]
        simp
      rw [hx] at k
      exact k F H _ Nxt.refl st ⟨a, vs, rfl, ha, ra⟩
    · obtain ⟨s3, n3⟩ := st.froze (o := .tup (cutV vs lo hi)) hp
      exact k _ _ _ n3 s3 ⟨p, _, rfl, SqT.of upd_same, RepL.mono n3.fr (cutP_rep ra lo hi)⟩
  | str xs =>
    have rx : _ = _ := rx
    subst rx
    have e : (if xs.length ≤ 100000 then some (P.str (cutP xs lo hi)) else none) = some z := e
    split at e
    · rename_i hz
      cases e
      refine .inr ⟨_, rfl, by rw [strOf_length]; exact sz5 hz, ?_⟩
      have q : cutS (strOf xs) lo hi = strOf (cutP xs lo hi) := by
        unfold cutS cutP
        rw [strOf_length]
        rfl
      rw [q]
      exact k F H _ Nxt.refl st rfl
    · cases e
  | _ => cases e
theorem oe_slice {lo hi : Option Expr} {p2 : Pos} {ml mh : En → Sto → Res (Option Int)} (ha : OE X W a ma) (hl : OO X W lo ml) (hh : OO X W hi mh) : OE X W (.Subscript a (.Slice lo hi none p2) pos) (eSl ma ml mh) := by
  obtain ⟨t, p, ha⟩ := ha
  obtain ⟨tl, pl, hl⟩ := hl
  obtain ⟨th, ph, hh⟩ := hh
  refine ⟨_, pe_slice (SlR.or (SlR.or sl_list sl_tupA) sl_str) p pl ph, fun ρ S io F σ H Q st en h => ?_⟩
  refine ha ρ S io F σ H _ st en (RG.bind h fun d S1 io1 F1 H1 v e1 n1 s1 r1 h1 => ?_)
  refine hl ρ S1 io1 F1 σ H1 _ s1 (en.nxt n1) (RG.bind h1 fun lo' S2 io2 F2 H2 v2 e2 n2 s2 r2 h2 => ?_)
  subst r2
  refine hh ρ S2 io2 F2 σ H2 _ s2 (en.nxt (n1.trans n2)) (RG.bind h2 fun hi' S3 io3 F3 H3 v3 e3 n3 s3 r3 h3 => ?_)
  subst r3
  exact s3.op1 (r := fun x H Q => (rSlL X.K x lo' hi' H Q ∨ rSlA X.K x lo' hi' H Q) ∨ rSlS x lo' hi' H Q) ok_sl (r1.mono (n2.trans n3).han (n2.trans n3).fr) h3
end
end Mir

namespace Mir
open PySem L2
def intsOf : List P → Option (List Int)
  | [] => some []
  | .int i :: r => (intsOf r).map (i :: ·)
  | _ :: _ => none
def blsOf : List P → Option (List Bool)
  | [] => some []
  | .bl i :: r => (blsOf r).map (i :: ·)
  | _ :: _ => none
def strsOf : List P → Option (List (List Nat))
  | [] => some []
  | .str i :: r => (strsOf r).map (i :: ·)
  | _ :: _ => none
section
variable {K : PySem.W.Frag} {F H : Hp}
theorem blsOf_rep : ∀ {xs : List P} {vs : List V} {ns : List Bool}, RepL K F xs vs → blsOf xs = some ns → vs = ns.map V.bl ∧ xs = ns.map P.bl
  | [], vs, ns, r, e => by
    have e' : [] = ns := Option.some.inj e
    subst e'
    exact ⟨r, rfl⟩
  | x :: xs, vs, ns, ⟨v, w, e1, h1, h2⟩, e => by
    subst e1
    cases x with
    | bl i =>
      have e : (blsOf xs).map (i :: ·) = some ns := e
      cases q : blsOf xs with
      | none => rw [q] at e; cases e
      | some ms =>
        rw [q] at e
        have e' : i :: ms = ns := Option.some.inj e
        subst e'
        obtain ⟨a, b⟩ := blsOf_rep h2 q
        have h1 : v = .bl i := h1
        rw [a, b, h1]
        exact ⟨rfl, rfl⟩
    | _ => cases e
end
@[simp] theorem intsOf_map (ns : List Int) : intsOf (ns.map P.int) = some ns := by
  induction ns with
  | nil => rfl
  | cons n ns ih => show (intsOf (ns.map P.int)).map (n :: ·) = _; rw [ih]; rfl
@[simp] theorem blsOf_map (ns : List Bool) : blsOf (ns.map P.bl) = some ns := by
  induction ns with
  | nil => rfl
  | cons n ns ih => show (blsOf (ns.map P.bl)).map (n :: ·) = _; rw [ih]; rfl
@[simp] theorem strsOf_map (ns : List (List Nat)) : strsOf (ns.map P.str) = some ns := by
  induction ns with
  | nil => rfl
  | cons n ns ih => show (strsOf (ns.map P.str)).map (n :: ·) = _; rw [ih]; rfl
def pLen : List P → Option P
  | [.lst xs] => some (.int xs.length)
  | [.scr xs] => some (.int xs.length)
  | [.tup xs] => some (.int xs.length)
  | [.str x] => if x.length ≤ 100000 then some (.int x.length) else none
  | [.dct ks xs] => some (.int ks.length)
  | _ => none
def pSum : List P → Option P
  | [.lst xs] => (intsOf xs).map fun ns => .int ns.sum
  | _ => none
def pAll : List P → Option P
  | [.lst xs] => (blsOf xs).map fun ns => .bl (ns.all id)
  | _ => none
def pAny : List P → Option P
  | [.lst xs] => (blsOf xs).map fun ns => .bl (ns.any id)
  | _ => none
def pTuple : List P → Option P
  | [.lst xs] => some (.tup xs)
  | [.tup xs] => some (.tup xs)
  | _ => none
def pList : List P → Option P
  | [.lst xs] => some (.lst xs)
  | [.tup xs] => some (.lst xs)
  | _ => none
def pAbs : List P → Option P
  | [.int i] => some (.int (if i < 0 then -i else i))
  | _ => none
def pInt : List P → Option P
  | [.int i] => some (.int i)
  | [.bl b] => some (.int (if b then 1 else 0))
  | _ => none
def pMax2 : List P → Option P
  | [.int i, .int j] => some (.int (if j > i then j else i))
  | _ => none
def pMin2 : List P → Option P
  | [.int i, .int j] => some (.int (if j < i then j else i))
  | _ => none
def pDivmod : List P → Option P
  | [.int i, .int j] => if bDiv i j then some (.tup [.int (i / j), .int (i % j)]) else none
  | _ => none
section
variable {K : PySem.W.Frag}
theorem ok_len : CallOk K (fun xs H Q => (∃ x n, xs = [x] ∧ LenV K x H n ∧ Q (.int n) H) ∨ (∃ a kvs, xs = [V.ref a] ∧ H a = some (.dK kvs) ∧ Q (.int kvs.length) H)) pLen := by
  intro io F S H xs vs z Q st rx e k
  match xs, e with
  | [.lst xs], e =>
    obtain ⟨v, rfl, r1⟩ := rx.one
    obtain ⟨a, vs, rfl, ha, ra⟩ := r1
    cases e
    refine .inl ⟨_, vs.length, rfl, .inl ⟨vs, SqL.of ha, rfl⟩, ?_⟩
    rw [ra.length]
    exact k F H _ Nxt.refl st rfl
  | [.scr xs], e =>
    obtain ⟨v, rfl, r1⟩ := rx.one
    obtain ⟨a, vs, rfl, ha, ra⟩ := r1
    cases e
    refine .inl ⟨_, vs.length, rfl, .inl ⟨vs, sql_mono st.sub ha, rfl⟩, ?_⟩
    rw [ra.length]
    exact k F H _ Nxt.refl st rfl
  | [.tup xs], e =>
    obtain ⟨v, rfl, r1⟩ := rx.one
    obtain ⟨a, vs, rfl, ha, ra⟩ := r1
    cases e
    refine .inl ⟨_, vs.length, rfl, .inr ⟨vs, sqt_mono st.sub ha, rfl⟩, ?_⟩
    rw [ra.length]
    exact k F H _ Nxt.refl st rfl
  | [.str xs], e =>
    obtain ⟨v, rfl, r1⟩ := rx.one
    have r1 : v = .str (strOf xs) := r1
    subst r1
    have e : (if xs.length ≤ 100000 then some (P.int xs.length) else none) = some z := e
    split at e
    · rename_i hz
      cases e
      refine .inl ⟨_, xs.length, rfl, ⟨by rw [strOf_length]; exact sz5 hz, (strOf_length xs).symm⟩, ?_⟩
      exact k F H _ Nxt.refl st rfl
    · cases e
  | [.dct ks xs], e =>
    obtain ⟨v, rfl, r1⟩ := rx.one
    obtain ⟨a, kvs, rfl, ha, ra, rb⟩ := r1
    cases e
    refine .inr ⟨a, kvs, rfl, ha, ?_⟩
    have := ra.length
    rw [List.length_map] at this
    rw [this]
    exact k F H _ Nxt.refl st rfl
theorem ok_all : CallOk K (rAll K) pAll := by
  intro io F S H xs vs z Q st rx e k
  match xs, e with
  | [.lst xs], e =>
    obtain ⟨v, rfl, r1⟩ := rx.one
    obtain ⟨a, vs, rfl, ha, ra⟩ := r1
    have e : (blsOf xs).map (fun ns => P.bl (ns.all id)) = some z := e
    cases q : blsOf xs with
    | none => rw [q] at e; cases e
    | some ns =>
      rw [q] at e
      cases e
      obtain ⟨h1, h2⟩ := blsOf_rep ra q
      subst h1
      exact ⟨a, ns, rfl, SqL.of ha, k F H _ Nxt.refl st rfl⟩
theorem ok_abs : CallOk K (fun xs H Q => ∃ i, xs = [.int i] ∧ Q (.int (if i < 0 then -i else i)) H) pAbs := by
  intro io F S H xs vs z Q st rx e k
  match xs, e with
  | [.int i], e =>
    obtain ⟨v, rfl, r1⟩ := rx.one
    have r1 : v = .int i := r1
    subst r1
    cases e
    exact ⟨i, rfl, k F H _ Nxt.refl st rfl⟩
theorem ok_int : CallOk K (fun xs H Q => (∃ i, xs = [.int i] ∧ Q (.int i) H) ∨ ∃ k, xs = [.bl k] ∧ Q (.int (if k then 1 else 0)) H) pInt := by
  intro io F S H xs vs z Q st rx e k
  match xs, e with
  | [.int i], e =>
    obtain ⟨v, rfl, r1⟩ := rx.one
    have r1 : v = .int i := r1
    subst r1
    cases e
    exact .inl ⟨i, rfl, k F H _ Nxt.refl st rfl⟩
  | [.bl i], e =>
    obtain ⟨v, rfl, r1⟩ := rx.one
    have r1 : v = .bl i := r1
    subst r1
    cases e
    exact .inr ⟨i, rfl, k F H _ Nxt.refl st rfl⟩
theorem ok_max2 : CallOk K (fun xs H Q => ∃ i j, xs = [.int i, .int j] ∧ Q (.int (if j > i then j else i)) H) pMax2 := by
  intro io F S H xs vs z Q st rx e k
  match xs, e with
  | [.int i, .int j], e =>
    obtain ⟨v, w, rfl, r1, r2⟩ := rx.two
    have r1 : v = .int i := r1
    have r2 : w = .int j := r2
    subst r1; subst r2
    cases e
    exact ⟨i, j, rfl, k F H _ Nxt.refl st rfl⟩
theorem ok_min2 : CallOk K (fun xs H Q => ∃ i j, xs = [.int i, .int j] ∧ Q (.int (if j < i then j else i)) H) pMin2 := by
  intro io F S H xs vs z Q st rx e k
  match xs, e with
  | [.int i, .int j], e =>
    obtain ⟨v, w, rfl, r1, r2⟩ := rx.two
    have r1 : v = .int i := r1
    have r2 : w = .int j := r2
    subst r1; subst r2
    cases e
    exact ⟨i, j, rfl, k F H _ Nxt.refl st rfl⟩
theorem ok_divmod : CallOk K (fun xs H Q => ∃ i j, xs = [.int i, .int j] ∧ CDiv i j ∧ ∀ p, H p = none → Q (.ref p) (upd H p (.tup [.int (i / j), .int (i % j)]))) pDivmod := by
  intro io F S H xs vs z Q st rx e k
  match xs, e with
  | [.int i, .int j], e =>
    obtain ⟨v, w, rfl, r1, r2⟩ := rx.two
    have r1 : v = .int i := r1
    have r2 : w = .int j := r2
    subst r1; subst r2
    have e : (if bDiv i j then some (P.tup [.int (i / j), .int (i % j)]) else none) = some z := e
    split at e
    · rename_i hd
      cases e
      refine ⟨i, j, rfl, bDiv_ok i j hd, fun p hp => ?_⟩
      obtain ⟨s3, n3⟩ := st.froze (o := .tup [.int (i / j), .int (i % j)]) hp
      exact k _ _ _ n3 s3 ⟨p, _, rfl, SqT.of upd_same, .cons rfl (.cons rfl .nil)⟩
    · cases e
end
def txL (x : Str) : List Nat := x.cps.toList
def flatP : P → Bool
  | .non => true
  | .bl _ => true
  | .int _ => true
  | .str _ => true
  | _ => false
def idxP (y : P) : List P → Nat → Option Nat
  | [], _ => none
  | x :: xs, i => if x.eqv y then some i else idxP y xs (i + 1)
section
variable {K : PySem.W.Frag} {F H : Hp}
theorem idxP_some : ∀ {y : P} {xs : List P} {i n : Nat}, idxP y xs i = some n → ∃ j x, n = i + j ∧ xs[j]? = some x ∧ x.eqv y = true ∧ ∀ (m : Nat) (z : P), m < j → xs[m]? = some z → z.eqv y = false
  | y, [], i, n, e => by cases e
  | y, x :: xs, i, n, e => by
    unfold idxP at e
    split at e
    · rename_i h
      cases e
      exact ⟨0, x, rfl, rfl, h, fun m z hm => by omega⟩
    · rename_i h
      obtain ⟨j, z, h1, h2, h3, h4⟩ := idxP_some e
      refine ⟨j + 1, z, by omega, by simpa using h2, h3, fun m w hm hw => ?_⟩
      cases m with
      | zero =>
        have : x = w := by simpa using hw
        subst this
        exact Bool.eq_false_iff.mpr h
      | succ m => exact h4 m w (by omega) (by simpa using hw)
end
section
variable {X : Cx} {W : WX} {a b c e o : Expr} {ma mb mc mo : ME} {pos p apos : Pos}
theorem oe_len (hm : X.mg "len" = none) (ha : OE X W a ma) (hg : Gl X "len" := by rfl) (hs : starEach [a] X.env = (false, eval a X.env) :: starEach [] X.env := by rfl) : OE X W (.Call (.Name "len" p) [a] [] pos) (eCall pLen (aCons ma aNil)) := oe_callB (CallR.or call_len call_lenD) ok_len hm PySem.boot_len (oa_cons ha oa_nil hs) hg (by decide) (by decide) hs rfl
theorem oe_all (hc : X.calm = true) (hm : X.mg "all" = none) (ha : OE X W a ma) (hg : Gl X "all" := by rfl) (hs : starEach [a] X.env = (false, eval a X.env) :: starEach [] X.env := by rfl) : OE X W (.Call (.Name "all" p) [a] [] pos) (eCall pAll (aCons ma aNil)) := oe_callB (cr_all hc) ok_all hm (by decide +kernel) (oa_cons ha oa_nil hs) hg (by decide) (by decide) hs rfl
theorem oe_abs (hm : X.mg "abs" = none) (ha : OE X W a ma) (hg : Gl X "abs" := by rfl) (hs : starEach [a] X.env = (false, eval a X.env) :: starEach [] X.env := by rfl) : OE X W (.Call (.Name "abs" p) [a] [] pos) (eCall pAbs (aCons ma aNil)) := oe_callB call_abs ok_abs hm (by decide +kernel) (oa_cons ha oa_nil hs) hg (by decide) (by decide) hs rfl
theorem oe_max2 (hc : X.calm = true) (hm : X.mg "max" = none) (ha : OE X W a ma) (hb : OE X W b mb) (hg : Gl X "max" := by rfl) (hs : starEach [a, b] X.env = (false, eval a X.env) :: starEach [b] X.env := by rfl) (hs2 : starEach [b] X.env = (false, eval b X.env) :: starEach [] X.env := by rfl) (hp : (backTo pos (starEach [b] X.env)).any (·.1) = false := by rfl) :
    OE X W (.Call (.Name "max" p) [a, b] [] pos) (eCall pMax2 (aCons ma (aCons mb aNil))) := oe_callB (call_max2 hc) ok_max2 hm (by decide +kernel) (oa_cons ha (oa_cons hb oa_nil hs2) hs) hg (by decide) (by decide) hs hp
theorem oe_min2 (hc : X.calm = true) (hm : X.mg "min" = none) (ha : OE X W a ma) (hb : OE X W b mb) (hg : Gl X "min" := by rfl) (hs : starEach [a, b] X.env = (false, eval a X.env) :: starEach [b] X.env := by rfl) (hs2 : starEach [b] X.env = (false, eval b X.env) :: starEach [] X.env := by rfl) (hp : (backTo pos (starEach [b] X.env)).any (·.1) = false := by rfl) :
    OE X W (.Call (.Name "min" p) [a, b] [] pos) (eCall pMin2 (aCons ma (aCons mb aNil))) := oe_callB (call_min2 hc) ok_min2 hm (by decide +kernel) (oa_cons ha (oa_cons hb oa_nil hs2) hs) hg (by decide) (by decide) hs hp
theorem oe_divmod (hm : X.mg "divmod" = none) (ha : OE X W a ma) (hb : OE X W b mb) (hg : Gl X "divmod" := by rfl) (hs : starEach [a, b] X.env = (false, eval a X.env) :: starEach [b] X.env := by rfl) (hs2 : starEach [b] X.env = (false, eval b X.env) :: starEach [] X.env := by rfl) (hp : (backTo pos (starEach [b] X.env)).any (·.1) = false := by rfl) :
    OE X W (.Call (.Name "divmod" p) [a, b] [] pos) (eCall pDivmod (aCons ma (aCons mb aNil))) := oe_callB call_divmod ok_divmod hm (by decide +kernel) (oa_cons ha (oa_cons hb oa_nil hs2) hs) hg (by decide) (by decide) hs hp
theorem oe_intC (hm : X.mg "int" = none) (ha : OE X W a ma) (hg : Gl X "int" := by rfl) (hs : starEach [a] X.env = (false, eval a X.env) :: starEach [] X.env := by rfl) : OE X W (.Call (.Name "int" p) [a] [] pos) (eCall pInt (aCons ma aNil)) := oe_callTy call_int1 ok_int hm (by decide +kernel) (oa_cons ha oa_nil hs) hg (by decide) (by decide) hs rfl
def inP (y : P) (xs : List P) : Bool := xs.any fun x => x.eqv y
def occB (x s : List Nat) : Bool := !(Builtin.Str.occurrences (strOf s) (strOf x) 0 (strOf s).length 1).isEmpty
def pIn : P → P → Option P
  | y, .lst xs => if flatP y && xs.all flatP then some (.bl (inP y xs)) else none
  | y, .tup xs => if flatP y && xs.all flatP then some (.bl (inP y xs)) else none
  | .str x, .str s => some (.bl (occB x s))
  | _, _ => none
def pNotIn (x y : P) : Option P := match pIn x y with
  | some (.bl b) => some (.bl (!b))
  | _ => none
def pMul : P → P → Option P
  | .int i, .int j => if bMul i j then some (.int (i * j)) else none
  | .lst xs, .int j => if 0 ≤ j ∧ j ≤ 1000 ∧ xs.length ≤ 1000 then some (.lst (List.replicate j.toNat xs).flatten) else none
  | _, _ => none
theorem repL_flat {K : PySem.W.Frag} {F : Hp} {xs : List P} {vs : List V} (r : RepL K F xs vs) : ∀ n, RepL K F (List.replicate n xs).flatten (List.replicate n vs).flatten
  | 0 => .nil
  | n + 1 => by
    rw [List.replicate_succ, List.replicate_succ, List.flatten_cons, List.flatten_cons]
    exact r.append (repL_flat r n)
theorem ok_mul {K : PySem.W.Frag} : BinOk K (fun x y H Q => (rI CMul fun i j => .int (i * j)) x y H Q ∨ rRep x y H Q) pMul := by
  intro io F S H x y v w z Q st rx ry e k
  cases y with
  | int j =>
    have ry : _ = _ := ry
    subst ry
    cases x with
    | int i =>
      have rx : _ = _ := rx
      subst rx
      have e : (if bMul i j then some (P.int (i * j)) else none) = some z := e
      split at e
      · rename_i hb
        cases e
        exact .inl ⟨i, j, rfl, rfl, bMul_ok i j hb, k F H _ Nxt.refl st rfl⟩
      · cases e
    | lst xs =>
      obtain ⟨a, vs, rfl, ha, ra⟩ := rx
      have e : (if 0 ≤ j ∧ j ≤ 1000 ∧ xs.length ≤ 1000 then some (P.lst (List.replicate j.toNat xs).flatten) else none) = some z := e
      split at e
      · rename_i hb
        cases e
        obtain ⟨h0, h1, h2⟩ := hb
        have hz : vs.length * j.toNat ≤ sizeLine := by
          rw [ra.length]
          have : j.toNat ≤ 1000 := by omega
          exact Nat.le_trans (Nat.mul_le_mul h2 this) (by decide)
        refine .inr ⟨a, j, vs, rfl, rfl, ha, by omega, by omega, hz, fun p hp => ?_⟩
        obtain ⟨s3, n3⟩ := st.froze (o := .lst (List.replicate j.toNat vs).flatten) hp
        exact k _ _ _ n3 s3 ⟨p, _, rfl, upd_same, RepL.mono n3.fr (repL_flat ra _)⟩
      · cases e
    | _ => cases e
  | _ => cases x <;> cases e
theorem oe_mul (ha : OE X W a ma) (hb : OE X W b mb) : OE X W (.BinOp a .Mult b pos) (eBin pMul ma mb) := oe_bin (OpR.or op_mul op_rep) ok_mul ha hb
end
end Mir

namespace Mir
open PySem L2
def tE (K : PySem.W.Frag) (W : WX) (m : ME) : TE := fun σ H Q => ∃ ρ S io F, Sta K io F S H ∧ Mir.Env K io F ρ σ ∧ RG K (RepA K) (m ρ S) io F H Q (fun c d H' => W c d σ H')
def tT (K : PySem.W.Frag) (W : WX) (m : MT) : TT := fun σ H Q => ∃ ρ S io F, Sta K io F S H ∧ Mir.Env K io F ρ σ ∧ RG K RepB (m ρ S) io F H Q (fun c d H' => W c d σ H')
section
variable {X : Cx} {W : WX}
theorem OE.pe {e : Expr} {m : ME} (h : OE X W e m) : PE X e (tE X.K W m) := by
  obtain ⟨t, p, h⟩ := h
  exact ⟨fun pins s σ H Q I ⟨ρ, S, io, F, st, en, q⟩ => p.run pins s σ H Q I (h ρ S io F σ H Q st en q)⟩
theorem OT.pt {e : Expr} {m : MT} (h : OT X W e m) : PT X e (tT X.K W m) := by
  obtain ⟨t, p, h⟩ := h
  exact ⟨fun pins s σ H Q I ⟨ρ, S, io, F, st, en, q⟩ => p.run pins s σ H Q I (h ρ S io F σ H Q st en q)⟩
end
abbrev MG := Vl → En → Sto → Res En
def Agree (js : List Nat) (σ σ' : St) : Prop := σ'.length = σ.length ∧ ∀ j : Nat, j ∉ js → σ'[j]? = σ[j]?
def RepEn (K : PySem.W.Frag) (js : List Nat) (σ : St) : Io → Hp → En → St → Prop := fun io F ρ σ' => Mir.Env K io F ρ σ' ∧ Agree js σ σ'
def OG (X : Cx) (W : WX) (tg : Expr) (js : List Nat) (m : MG) : Prop := ∃ t, PG X tg t ∧ ∀ (d : Vl) (v : V) (ρ : En) (S : Sto) (io : Io) (F : Hp) (σ : St) (H : Hp) (Q : St → Hp → Prop), Sta X.K io F S H → Mir.Env X.K io F ρ σ → RepV X.K io F d v →
  RG X.K (RepEn X.K js σ) (m d ρ S) io F H Q (fun c d H' => W c d σ H') → t v σ H Q
def tG (K : PySem.W.Frag) (W : WX) (js : List Nat) (m : MG) : TG := fun v σ H Q => ∃ d ρ S io F, Sta K io F S H ∧ Mir.Env K io F ρ σ ∧ RepV K io F d v ∧ RG K (RepEn K js σ) (m d ρ S) io F H Q (fun c d H' => W c d σ H')
theorem OG.pg {X : Cx} {W : WX} {tg : Expr} {js : List Nat} {m : MG} (h : OG X W tg js m) : PG X tg (tG X.K W js m) := by
  obtain ⟨t, p, h⟩ := h
  exact ⟨fun pins s σ H v u Q I r ⟨d, ρ, S, io, F, st, en, rv, q⟩ => p.run pins s σ H v u Q I r (h d v ρ S io F σ H Q st en rv q)⟩
def gNm (i : Nat) : MG := fun d ρ S => .ok (ρ.set i (some d)) S
theorem agree_refl {js : List Nat} {σ : St} : Agree js σ σ := ⟨rfl, fun _ _ => rfl⟩
theorem agree_set {i : Nat} {σ : St} {o : Option V} : Agree [i] σ (σ.set i o) := ⟨by rw [List.length_set], fun j hj => by
  rw [List.getElem?_set_ne]
  intro e
  exact hj (by rw [e]; exact List.mem_singleton.mpr rfl)⟩
theorem agree_trans {is js : List Nat} {a b c : St} (h : Agree is a b) (h' : Agree js b c) : Agree (is ++ js) a c := ⟨h'.1.trans h.1, fun j hj => by
  rw [List.mem_append, not_or] at hj
  rw [h'.2 j hj.2, h.2 j hj.1]⟩
theorem wipe_get : ∀ (τ : St) (vs : List Nat) (j : Nat), (L2.wipe τ vs)[j]? = if j ∈ vs then (τ[j]?).map (fun _ => none) else τ[j]? := by
  intro τ vs
  induction vs with
  | nil => intro j; simp [L2.wipe]
  | cons v vs ih =>
    intro j
    unfold L2.wipe
    by_cases hj : v = j
    · subst hj
      rw [if_pos List.mem_cons_self]
      by_cases hl : v < (L2.wipe τ vs).length
      · rw [List.getElem?_set_self hl]
        rw [wipe_length] at hl
        rw [List.getElem?_eq_getElem hl]
        rfl
      · rw [List.getElem?_eq_none (by rw [List.length_set]; omega)]
        rw [wipe_length] at hl
        rw [List.getElem?_eq_none (by omega)]
        rfl
    · rw [List.getElem?_set_ne hj, ih j]
      have : (j ∈ v :: vs) ↔ j ∈ vs := by
        constructor
        · intro h
          rcases List.mem_cons.mp h with e | h
          · exact absurd e.symm hj
          · exact h
        · exact List.mem_cons_of_mem _
      simp only [this]
theorem wipe_agree {js vs : List Nat} {σ σ' : St} (h : Agree js σ σ') (hs : ∀ j ∈ js, j ∈ vs) : L2.wipe σ' vs = L2.wipe σ vs := by
  apply List.ext_getElem?
  intro j
  rw [wipe_get, wipe_get]
  by_cases hj : j ∈ vs
  · rw [if_pos hj, if_pos hj]
    by_cases hl : j < σ.length
    · rw [List.getElem?_eq_getElem hl, List.getElem?_eq_getElem (by rw [h.1]; exact hl)]
      rfl
    · rw [List.getElem?_eq_none (by rw [h.1]; omega), List.getElem?_eq_none (by omega)]
  · rw [if_neg hj, if_neg hj]
    exact h.2 j fun z => hj (hs j z)
section
variable {X : Cx} {W : WX} {pos : Pos}
theorem og_name {i : Nat} {x : Str} (hN : X.N.Nodup) (hi : X.N[i]? = some x := by rfl) (hx : Loc X.env.scope x := by first | exact Or.inl rfl | exact Or.inr rfl) (hf : X.fn x = true ∨ X.env.scope.names.lookup x = some .local := by first | exact .inl rfl | exact .inr rfl) : OG X W (.Name x pos) [i] (gNm i) := by
  refine ⟨_, pg_name hN hi hx hf, fun d v ρ S io F σ H Q st en rv h => ?_⟩
  exact h io F H (σ.set i (some v)) Nxt.refl st ⟨en.set rv i, agree_set⟩
abbrev MGs := List Vl → En → Sto → Res En
def OGs (X : Cx) (W : WX) (ts : List Expr) (js : List Nat) (m : MGs) : Prop := ∃ t, PGs X ts t ∧ ∀ (ds : List Vl) (vs : List V) (ρ : En) (S : Sto) (io : Io) (F : Hp) (σ : St) (H : Hp) (Q : St → Hp → Prop), Sta X.K io F S H → Mir.Env X.K io F ρ σ → RepVs X.K io F ds vs →
  RG X.K (RepEn X.K js σ) (m ds ρ S) io F H Q (fun c d H' => W c d σ H') → t vs σ H Q
def gNl : MGs := fun ds ρ S => match ds with
  | [] => .ok ρ S
  | _ => .bad
def Res.nox {A : Type} (r : Res A) : Res A := match r with
  | .ok a S => .ok a S
  | _ => .bad
theorem RG.nox {K : PySem.W.Frag} {A B C D : Type} {R : Io → Hp → A → B → Prop} {R' : Io → Hp → C → D → Prop} {Q : D → Hp → Prop} {Q1 : B → Hp → Prop} {E E1 : XK} {io : Io} {F H : Hp} {r : Res A} {f : A → Sto → Res C} (h : RG K R' (r.nox.bind f) io F H Q E)
    (k : ∀ a S1 io1 F1 H1 v, r = .ok a S1 → Nxt io F H io1 F1 H1 → Sta K io1 F1 S1 H1 → R io1 F1 a v → RG K R' (f a S1) io1 F1 H1 Q E → Q1 v H1) : RG K R r io F H Q1 E1 := by
  cases r with
  | ok a S => exact fun io' F' H' v n s rp => k a S io' F' H' v rfl n s rp (RG.step n h)
  | exc c x S => exact h.elim
  | bad => exact h
def gCn (g : MG) (r : MGs) : MGs := fun ds ρ S => match ds with
  | d :: ds => (g d ρ S).nox.bind fun ρ1 S1 => r ds ρ1 S1
  | [] => .bad
theorem ogs_nil : OGs X W [] [] gNl := by
  refine ⟨_, pgs_nil, fun ds vs ρ S io F σ H Q st en rv h => ?_⟩
  cases ds with
  | nil =>
    have rv : _ = _ := rv
    subst rv
    exact ⟨rfl, h io F H σ Nxt.refl st ⟨en, agree_refl⟩⟩
  | cons d ds => exact h.elim
theorem ogs_cons {e : Expr} {es : List Expr} {js ks : List Nat} {g : MG} {r : MGs} (h1 : OG X (fun _ _ _ _ => False) e js g) (h2 : OGs X (fun _ _ _ _ => False) es ks r) (hs : (assignEach (e :: es) X.env).map (·.2) = assign e X.env :: (assignEach es X.env).map (·.2) := by rfl) : OGs X (fun _ _ _ _ => False) (e :: es) (js ++ ks) (gCn g r) := by
  obtain ⟨t, p, h1⟩ := h1
  obtain ⟨u, q, h2⟩ := h2
  refine ⟨_, pgs_cons p q hs, fun ds vs ρ S io F σ H Q st en rv h => ?_⟩
  cases ds with
  | nil => exact h.elim
  | cons d ds =>
    obtain ⟨v, w, e1, r1, r2⟩ := rv
    subst e1
    refine ⟨v, w, rfl, ?_⟩
    refine h1 d v ρ S io F σ H _ st en r1 (RG.nox h fun ρ1 S1 io1 F1 H1 σ1 e1 n1 s1 rr h3 => ?_)
    refine h2 ds w ρ1 S1 io1 F1 σ1 H1 Q s1 rr.1 (r2.mono n1.han n1.fr) (RG.imp ?_ h3)
    rintro io F ρ2 σ2 ⟨a, b⟩
    exact ⟨a, agree_trans rr.2 b⟩
def gTp (n : Nat) (r : MGs) : MG := fun d ρ S => match d with
  | .p (.tup xs) => if xs.length = n then r (xs.map Vl.p) ρ S else .bad
  | _ => .bad
theorem og_tup {es : List Expr} {k n : Nat} {js : List Nat} {r : MGs} (hc : X.calm = true) (h : OGs X W es js r) (hn : (assignEach es X.env).length = n := by rfl) (hst : (assignEach es X.env).findIdx? (·.1) = none := by rfl) : OG X W (.Tuple es k pos) js (gTp n r) := by
  obtain ⟨t, p, h⟩ := h
  refine ⟨_, pg_tup hc p hn hst, fun d v ρ S io F σ H Q st en rv hw => ?_⟩
  cases d with
  | c k => exact hw.elim
  | p x =>
    cases x with
    | tup xs =>
      obtain ⟨a, vs, rfl, ha, ra⟩ := rv
      have hw : RG X.K (RepEn X.K js σ) (if xs.length = n then r (xs.map Vl.p) ρ S else .bad) io F H Q (fun c d H' => W c d σ H') := hw
      by_cases hl : xs.length = n
      · rw [if_pos hl] at hw
        exact ⟨a, vs, rfl, sqt_mono st.sub ha, by rw [ra.length]; exact hl, h _ vs ρ S io F σ H Q st en (RepVs.pure.mpr ra) hw⟩
      · rw [if_neg hl] at hw
        exact hw.elim
    | _ => exact hw.elim
end
def IterOk (K : PySem.W.Frag) (F : Hp) (xs : List P) (J : It) : Prop := ∀ (io' : Io) (F' : Hp) (S' : Sto) (H' : Hp) (i : Nat), Same F F' → Sta K io' F' S' H' →
  (∀ x, xs[i]? = some x → J.go i H' ∧ ∀ v H'', J.yld i H' v H'' → ∃ F'', Nxt io' F' H' io' F'' H'' ∧ Sta K io' F'' S' H'' ∧ Rep K F'' x v) ∧ (xs[i]? = none → J.stop i H')
def RepJ (K : PySem.W.Frag) : Io → Hp → List P → It → Prop := fun _ F xs J => IterOk K F xs J
abbrev MI := En → Sto → Res (List P)
def OI (X : Cx) (W : WX) (tg iter : Expr) (m : MI) : Prop := ∃ t, PI X tg iter t ∧ ∀ (ρ : En) (S : Sto) (io : Io) (F : Hp) (σ : St) (H : Hp) (R : It → Hp → Prop), Sta X.K io F S H → Mir.Env X.K io F ρ σ →
  RG X.K (RepJ X.K) (m ρ S) io F H R (fun c d H' => W c d σ H') → t σ H R
def itemsP : P → Option (List P)
  | .lst xs => some xs
  | .tup xs => some xs
  | .scr xs => some xs
  | .str x => some (x.map fun c => .str [c])
  | _ => none
def itOf (m : ME) : MI := fun ρ S => (m ρ S).bind fun d S1 => (frz d S1).bind fun x S2 => match itemsP x with
  | some xs => .ok xs S2
  | none => .bad
section
variable {K : PySem.W.Frag} {F : Hp}
theorem iter_list {a : Addr} {xs : List P} {vs : List V} (h : SqL K F a vs) (r : RepL K F xs vs) : IterOk K F xs (Itl K a) := by
  intro io' F' S' H' i hF st
  have hs : SqL K H' a vs := sql_mono (hF.trans st.sub) h
  refine ⟨fun x hx => ?_, fun hx => ?_⟩
  · obtain ⟨v, hv, hr⟩ := r.get hx
    refine ⟨⟨vs, v, hs, hv⟩, fun w H'' y => ?_⟩
    obtain ⟨e, y⟩ := y
    subst e
    have := y vs hs
    rw [hv] at this
    cases this
    exact ⟨F', Nxt.refl, st, Rep.mono hF hr⟩
  · refine ⟨vs, hs, ?_⟩
    rw [r.length]
    exact List.getElem?_eq_none_iff.mp hx
theorem iter_tup {a : Addr} {xs : List P} {vs : List V} (h : SqT K F a vs) (r : RepL K F xs vs) : IterOk K F xs (Itt K a) := by
  intro io' F' S' H' i hF st
  have hs : SqT K H' a vs := sqt_mono (hF.trans st.sub) h
  refine ⟨fun x hx => ?_, fun hx => ?_⟩
  · obtain ⟨v, hv, hr⟩ := r.get hx
    refine ⟨⟨vs, v, hs, hv⟩, fun w H'' y => ?_⟩
    obtain ⟨e, y⟩ := y
    subst e
    have := y vs hs
    rw [hv] at this
    cases this
    exact ⟨F', Nxt.refl, st, Rep.mono hF hr⟩
  · refine ⟨vs, hs, ?_⟩
    rw [r.length]
    exact List.getElem?_eq_none_iff.mp hx
theorem iter_str {x : List Nat} : IterOk K F (x.map fun c => P.str [c]) (Its (strOf x)) := by
  intro io' F' S' H' i hF st
  refine ⟨fun y hy => ?_, fun hy => ?_⟩
  · rw [List.getElem?_map] at hy
    cases hc : x[i]? with
    | none => rw [hc] at hy; cases hy
    | some c =>
      rw [hc] at hy
      have hy : P.str [c] = y := Option.some.inj hy
      subst hy
      have hi : i < x.length := (List.getElem?_eq_some_iff.mp hc).1
      refine ⟨by show i < x.toArray.size; simpa using hi, fun v H'' yl => ?_⟩
      obtain ⟨e, c', hc', hv⟩ := yl
      subst e
      have : x[i]? = some c' := by
        have hc'' : x.toArray[i]? = some c' := hc'
        simpa using hc''
      rw [hc] at this
      cases this
      exact ⟨F', Nxt.refl, st, hv⟩
  · rw [List.getElem?_map] at hy
    show x.toArray.size ≤ i
    cases hc : x[i]? with
    | none =>
      have := List.getElem?_eq_none_iff.mp hc
      simpa using this
    | some c => rw [hc] at hy; cases hy
end
section
variable {X : Cx} {W : WX} {a b e : Expr} {ma mb : ME} {pos p tpos : Pos} {tg : Expr}
theorem oi_of (h : OE X W e ma) : OI X W tg e (itOf ma) := by
  obtain ⟨t, pe, h⟩ := h
  refine ⟨_, PI.or (PI.or (pi_list pe) (pi_tup pe)) (pi_str pe), fun ρ S io F σ H R st en hw => ?_⟩
  cases e1 : ma ρ S with
  | bad => unfold itOf at hw; rw [e1] at hw; exact hw.elim
  | exc c x S1 =>
    refine .inl (.inl (h ρ S io F σ H _ st en ?_))
    unfold itOf at hw
    rw [e1] at hw ⊢
    exact hw
  | ok d S1 =>
    have hw : RG X.K (RepJ X.K) ((frz d S1).bind fun x S2 => match itemsP x with
      | some xs => .ok xs S2
      | none => .bad) io F H R (fun c d H' => W c d σ H') := by
      unfold itOf at hw
      rw [e1] at hw
      exact hw
    have go : ∀ (Q : VK), (∀ io1 F1 H1 v, Nxt io F H io1 F1 H1 → Sta X.K io1 F1 S1 H1 → RepV X.K io1 F1 d v → Q v H1) → t σ H Q := fun Q q => h ρ S io F σ H Q st en (by rw [e1]; exact q)
    cases e2 : frz d S1 with
    | bad => rw [e2] at hw; exact hw.elim
    | exc c x S2 =>
      exact absurd e2 (frz_nox _ _ _ _ _)
    | ok x S2 =>
      cases x with
      | lst xs =>
        refine .inl (.inl (go _ fun io1 F1 H1 v n1 s1 r1 => ?_))
        obtain ⟨x', S2', F2, n2, s2, rp, hz, h2⟩ := s1.frz r1 (RG.step n1 hw)
        rw [e2] at hz; cases hz
        obtain ⟨a, vs, rfl, ha, ra⟩ := rp
        exact ⟨a, rfl, ⟨vs, SqL.of (s2.sub _ _ ha)⟩, h2 io1 F2 H1 (Itl X.K a) Nxt.refl s2 (iter_list (SqL.of ha) ra)⟩
      | scr xs =>
        refine .inl (.inl (go _ fun io1 F1 H1 v n1 s1 r1 => ?_))
        obtain ⟨x', S2', F2, n2, s2, rp, hz, h2⟩ := s1.frz r1 (RG.step n1 hw)
        rw [e2] at hz; cases hz
        obtain ⟨a, vs, rfl, ha, ra⟩ := rp
        exact ⟨a, rfl, ⟨vs, sql_mono s2.sub ha⟩, h2 io1 F2 H1 (Itl X.K a) Nxt.refl s2 (iter_list ha ra)⟩
      | tup xs =>
        refine .inl (.inr (go _ fun io1 F1 H1 v n1 s1 r1 => ?_))
        obtain ⟨x', S2', F2, n2, s2, rp, hz, h2⟩ := s1.frz r1 (RG.step n1 hw)
        rw [e2] at hz; cases hz
        obtain ⟨a, vs, rfl, ha, ra⟩ := rp
        exact ⟨a, rfl, ⟨vs, sqt_mono s2.sub ha⟩, h2 io1 F2 H1 (Itt X.K a) Nxt.refl s2 (iter_tup ha ra)⟩
      | str xs =>
        refine .inr (go _ fun io1 F1 H1 v n1 s1 r1 => ?_)
        obtain ⟨x', S2', F2, n2, s2, rp, hz, h2⟩ := s1.frz r1 (RG.step n1 hw)
        rw [e2] at hz; cases hz
        have rp : v = .str (strOf xs) := rp
        subst rp
        exact ⟨strOf xs, rfl, h2 io1 F2 H1 (Its (strOf xs)) Nxt.refl s2 iter_str⟩
      | _ => rw [e2] at hw; exact hw.elim
def rangeP (lo : Int) (n : Nat) : List P := (List.range n).map fun (k : Nat) => P.int (lo + (k : Int))
def itRange1 (m : ME) : MI := fun ρ S => (m ρ S).bind fun d S1 => match d with
  | .p (.int j) => if j < 2 ^ 62 ∧ -(2 ^ 62) ≤ j then .ok (rangeP 0 j.toNat) S1 else .bad
  | _ => .bad
theorem iter_range {K : PySem.W.Frag} {F : Hp} {lo : Int} {n : Nat} : IterOk K F (rangeP lo n) (Itr lo n) := by
  intro io' F' S' H' i hF st
  have hl : (rangeP lo n)[i]? = if i < n then some (P.int (lo + (i : Int))) else none := by
    unfold rangeP
    rw [List.getElem?_map]
    by_cases hi : i < n
    · rw [if_pos hi, List.getElem?_range hi]; rfl
    · rw [if_neg hi, List.getElem?_eq_none (by simpa using hi)]; rfl
  refine ⟨fun x hx => ?_, fun hx => ?_⟩
  · rw [hl] at hx
    by_cases hi : i < n
    · rw [if_pos hi] at hx
      cases hx
      refine ⟨hi, fun v H'' y => ?_⟩
      obtain ⟨e, hv⟩ := y
      subst e
      exact ⟨F', Nxt.refl, st, hv⟩
    · rw [if_neg hi] at hx; cases hx
  · rw [hl] at hx
    by_cases hi : i < n
    · rw [if_pos hi] at hx; cases hx
    · exact Nat.le_of_not_lt hi
theorem oi_range1 (hm : X.mg "range" = none) (h : OE X W a ma) (hg : Gl X "range" := by rfl) (hs : starEach [a] X.env = (false, eval a X.env) :: starEach [] X.env := by rfl) : OI X W tg (.Call (.Name "range" p) [a] [] pos) (itRange1 ma) := by
  obtain ⟨t, q, h⟩ := h
  refine ⟨_, pi_range1 hg hm (pa_cons q pa_nil hs) hs, fun ρ S io F σ H R st en hw => ?_⟩
  refine h ρ S io F σ H _ st en (RG.bind hw fun d S1 io1 F1 H1 v e1 n1 s1 r1 h1 => ?_)
  cases d with
  | c k => exact h1.elim
  | p x =>
    cases x with
    | int j =>
      have r1 : v = .int j := r1
      subst r1
      dsimp only at h1
      by_cases hb : j < 2 ^ 62 ∧ -(2 ^ 62) ≤ j
      · rw [if_pos hb] at h1
        exact ⟨j, rfl, hb.2, hb.1, h1 io1 F1 H1 _ Nxt.refl s1 iter_range⟩
      · rw [if_neg hb] at h1
        exact h1.elim
    | _ => exact h1.elim
def enumP (n : Nat) : List P → List P
  | [] => []
  | x :: xs => .tup [.int n, x] :: enumP (n + 1) xs
theorem enumP_get : ∀ (xs : List P) (n i : Nat), (enumP n xs)[i]? = (xs[i]?).map fun x => P.tup [.int ((n + i : Nat) : Int), x]
  | [], n, i => by simp [enumP]
  | x :: xs, n, 0 => by simp [enumP]
  | x :: xs, n, i + 1 => by
    show (enumP (n + 1) xs)[i]? = _
    rw [enumP_get xs (n + 1) i]
    simp only [List.getElem?_cons_succ]
    congr 1
    funext x
    congr 2
    have : ((n + 1 + i : Nat) : Int) = ((n + (i + 1) : Nat) : Int) := by omega
    rw [this]
def itEnum (m : ME) : MI := fun ρ S => (m ρ S).bind fun d S1 => (frz d S1).bind fun x S2 => match x with
  | .lst xs => .ok (enumP 0 xs) S2
  | _ => .bad
theorem iter_enum {K : PySem.W.Frag} {F : Hp} {a : Addr} {xs : List P} {vs : List V} (h : SqL K F a vs) (r : RepL K F xs vs) : IterOk K F (enumP 0 xs) (Ite K a) := by
  intro io' F' S' H' i hF st
  have hs : SqL K H' a vs := sql_mono (hF.trans st.sub) h
  rw [enumP_get]
  refine ⟨fun x hx => ?_, fun hx => ?_⟩
  · cases q : xs[i]? with
    | none => rw [q] at hx; cases hx
    | some y =>
      rw [q] at hx
      have hx : P.tup [.int ((0 + i : Nat) : Int), y] = x := Option.some.inj hx
      subst hx
      obtain ⟨v, hv, hr⟩ := r.get q
      refine ⟨⟨vs, v, hs, hv⟩, fun w H'' yl => ?_⟩
      obtain ⟨T, u, rfl, hT, e, hu⟩ := yl
      subst e
      have := hu vs hs
      rw [hv] at this
      cases this
      obtain ⟨s3, n3⟩ := st.froze (o := .tup [.int (i : Nat), v]) hT
      refine ⟨_, n3, s3, T, _, rfl, SqT.of upd_same, .cons ?_ (.cons (Rep.mono n3.fr (Rep.mono hF hr)) .nil)⟩
      show V.int _ = V.int _
      rw [Nat.zero_add]
  · refine ⟨vs, hs, ?_⟩
    rw [r.length]
    cases q : xs[i]? with
    | none => exact List.getElem?_eq_none_iff.mp q
    | some y => rw [q] at hx; cases hx
theorem oi_enum {elts : List Expr} {kk : Nat} (hm : X.mg "enumerate" = none) (h : OE X W a ma) (hg : Gl X "enumerate" := by rfl) (hs : starEach [a] X.env = (false, eval a X.env) :: starEach [] X.env := by rfl) : OI X W (.Tuple elts kk tpos) (.Call (.Name "enumerate" p) [a] [] pos) (itEnum ma) := by
  obtain ⟨t, q, h⟩ := h
  refine ⟨_, pi_enum hg hm (pa_cons q pa_nil hs) hs, fun ρ S io F σ H R st en hw => ?_⟩
  refine h ρ S io F σ H _ st en (RG.bind hw fun d S1 io1 F1 H1 v e1 n1 s1 r1 h1 => ?_)
  obtain ⟨x, S2, F2, n2, s2, rp, hz, h2⟩ := s1.frz r1 h1
  cases x with
  | lst xs =>
    obtain ⟨a, vs, rfl, ha, ra⟩ := rp
    exact ⟨a, vs, rfl, SqL.of (s2.sub _ _ ha), h2 io1 F2 H1 _ Nxt.refl s2 (iter_enum (SqL.of ha) ra)⟩
  | _ => exact h2.elim
def zipP : List P → List P → List P
  | x :: xs, y :: ys => .tup [x, y] :: zipP xs ys
  | _, _ => []
def itZip (m m2 : ME) : MI := fun ρ S => (m ρ S).bind fun d S1 => (m2 ρ S1).bind fun d2 S2 => match d, d2 with
  | .p (.lst xs), .p (.lst ys) => .ok (zipP xs ys) S2
  | _, _ => .bad
end
end Mir

namespace Mir
open PySem L2
def sPass : MS := fun ρ S => .ok (.nx ρ) S
def RF.thn (r : RF) (b : MS) : RF := match r with
  | .ok (.nx ρ) S => b ρ S
  | .ok (.rt d) S => .ok (.rt d) S
  | .ok (.bk ρ) S => .ok (.bk ρ) S
  | .ok (.ct ρ) S => .ok (.ct ρ) S
  | .ok (.xc ρ c x) S => .ok (.xc ρ c x) S
  | .bad => .bad
def sSeq (a b : MS) : MS := fun ρ S => (a ρ S).thn b
def sExpr (e : ME) : MS := fun ρ S => (e ρ S).go ρ fun _ S1 => .ok (.nx ρ) S1
def sRet (e : ME) : MS := fun ρ S => (e ρ S).go ρ fun d S1 => .ok (.rt d) S1
def sRetN : MS := fun ρ S => .ok (.rt (.p .non)) S
def sIf (t : MT) (a b : MS) : MS := fun ρ S => (t ρ S).go ρ fun c S1 => match c with
  | true => a ρ S1
  | false => b ρ S1
def sAsg (e : ME) (g : MG) : MS := fun ρ S => (e ρ S).go ρ fun d S1 => ((g d ρ S1).nox).go ρ fun ρ1 S2 => .ok (.nx ρ1) S2
def sPar (i j : Nat) (a : MA) : MS := fun ρ S => (a ρ S).go ρ fun ds S1 => match ds with
  | [d, d2] => .ok (.nx ((ρ.set i (some d)).set j (some d2))) S1
  | _ => .bad
def forGo (g : MG) (b : MS) : List P → En → Sto → RF
  | [], ρ, S => .ok (.nx ρ) S
  | x :: xs, ρ, S => ((g (.p x) ρ S).nox).go ρ fun ρ1 S1 => match b ρ1 S1 with
    | .ok (.nx ρ2) S2 => forGo g b xs ρ2 S2
    | .ok (.ct ρ2) S2 => forGo g b xs ρ2 S2
    | .ok (.bk ρ2) S2 => .ok (.nx ρ2) S2
    | .ok (.rt d) S2 => .ok (.rt d) S2
    | .ok (.xc ρ2 c x) S2 => .ok (.xc ρ2 c x) S2
    | .bad => .bad
def sFor (it : MI) (g : MG) (b : MS) : MS := fun ρ S => (it ρ S).go ρ fun xs S1 => forGo g b xs ρ S1
section
variable {X : Cx} {W : WX} {st : Stmt} {rest : List Stmt} {a b c e tg iter : Expr} {ma mb : ME} {m m2 : MS} {pos : Pos} {mt : MT}
theorem oss_nil : OSs X W [] sPass := ⟨_, pss_nil, fun ρ S io F σ H D s en h => h io F H σ Nxt.refl s en⟩
theorem oss_cons (h1 : OS X W st m) (h2 : OSs X W rest m2) : OSs X W (st :: rest) (sSeq m m2) := by
  obtain ⟨t, p, h1⟩ := h1
  obtain ⟨u, q, h2⟩ := h2
  refine ⟨_, pss_cons p q, fun ρ S io F σ H D s en h => ?_⟩
  refine h1 ρ S io F σ H _ s en ?_
  have h : RS X.K ((m ρ S).thn m2) io F H D W := h
  cases r : m ρ S with
  | bad => rw [r] at h; exact h
  | ok f S1 =>
    rw [r] at h
    cases f with
    | nx ρ1 => exact fun io1 F1 H1 σ1 n1 s1 en1 => h2 ρ1 S1 io1 F1 σ1 H1 D s1 en1 (RS.step n1 h)
    | rt d => exact h
    | bk ρ1 => exact h
    | ct ρ1 => exact h
    | xc ρ1 c x => exact h
theorem oss_one (h1 : OS X W st m) : OSs X W [st] m := by
  obtain ⟨t, p, h1⟩ := h1
  exact ⟨_, pss_one p, h1⟩
theorem os_expr (he : OE X W e ma) (hs : swapsWith e none pos.line X.env = pure false := by rfl) : OS X W (.Expr e pos) (sExpr ma) := by
  obtain ⟨t, p, he⟩ := he
  refine ⟨_, ps_expr p hs, fun ρ S io F σ H D s en h => ?_⟩
  exact he ρ S io F σ H _ s en (RS.go en h fun d S1 io1 F1 H1 v e1 n1 s1 r1 h1 => h1 io1 F1 H1 σ Nxt.refl s1 (en.nxt n1))
theorem os_ret (he : OE X W e ma) : OS X W (.Return (some e) pos) (sRet ma) := by
  obtain ⟨t, p, he⟩ := he
  refine ⟨_, ps_ret p, fun ρ S io F σ H D s en h => ?_⟩
  exact he ρ S io F σ H _ s en (RS.go en h fun d S1 io1 F1 H1 v e1 n1 s1 r1 h1 => h1 io1 F1 H1 v Nxt.refl s1 r1)
theorem os_if {as bs : List Stmt} (hc : OT X W c mt) (ha : OSs X W as m) (hb : OSs X W bs m2) : OS X W (.If c as bs pos) (sIf mt m m2) := by
  obtain ⟨t, p, hc⟩ := hc
  obtain ⟨u, q, ha⟩ := ha
  obtain ⟨u2, q2, hb⟩ := hb
  refine ⟨_, ps_if p q q2, fun ρ S io F σ H D s en h => ?_⟩
  refine hc ρ S io F σ H _ s en (RS.go en h fun d S1 io1 F1 H1 v e1 n1 s1 r1 h1 => ?_)
  cases r1
  cases d with
  | true => exact iteT (ha ρ S1 io1 F1 σ H1 D s1 (en.nxt n1) h1)
  | false => exact iteF (hb ρ S1 io1 F1 σ H1 D s1 (en.nxt n1) h1)
theorem RS.nox {K : PySem.W.Frag} {io : Io} {F H : Hp} {A B : Type} {R : Io → Hp → A → B → Prop} {Q1 : B → Hp → Prop} {D : Ends} {ρ : En} {r : Res A} {f : A → Sto → RF} {E : XK} (h : RS K (r.nox.go ρ f) io F H D W)
    (k : ∀ a S1 io1 F1 H1 v, r = .ok a S1 → Nxt io F H io1 F1 H1 → Sta K io1 F1 S1 H1 → R io1 F1 a v → RS K (f a S1) io1 F1 H1 D W → Q1 v H1) : RG K R r io F H Q1 E := by
  cases r with
  | ok a S => exact fun io' F' H' v n s rp => k a S io' F' H' v rfl n s rp (RS.step n h)
  | exc c x S => exact h.elim
  | bad => exact h
theorem os_asg {js : List Nat} {g : MG} (he : OE X W e ma) (hg : OG X (fun _ _ _ _ => False) tg js g) (hs : swapsWithSole [tg] e pos.line X.env = pure false := by rfl) (hw : swappedStores [tg] e X.env = pure none := by rfl)
    (h1 : (assignEach [tg] X.env).map (·.2) = [assign tg X.env] := by rfl) : OS X W (.Assign [tg] e pos) (sAsg ma g) := by
  obtain ⟨t, p, he⟩ := he
  obtain ⟨u, q, hg⟩ := hg
  refine ⟨_, ps_asg p q hs hw h1, fun ρ S io F σ H D s en h => ?_⟩
  refine he ρ S io F σ H _ s en (RS.go en h fun d S1 io1 F1 H1 v e1 n1 s1 r1 h1 => ?_)
  exact hg d v ρ S1 io1 F1 σ H1 _ s1 (en.nxt n1) r1 (RS.nox h1 fun ρ1 S2 io2 F2 H2 σ2 e2 n2 s2 r2 h2 => h2 io2 F2 H2 σ2 Nxt.refl s2 r2.1)
theorem os_set {i : Nat} {x : Str} {pos' : Pos} (hN : X.N.Nodup) (he : OE X W e ma) (hi : X.N[i]? = some x := by rfl) (hx : Loc X.env.scope x := by first | exact Or.inl rfl | exact Or.inr rfl) (hs : swapsWith e (some (.Name x pos')) pos.line X.env = pure false := by rfl)
    (hf : X.fn x = true ∨ X.env.scope.names.lookup x = some .local := by first | exact .inl rfl | exact .inr rfl) : OS X W (.Assign [.Name x pos'] e pos) (sAsg ma (gNm i)) := by
  obtain ⟨t, p, he⟩ := he
  refine ⟨_, ps_set hN hi hx p hs hf, fun ρ S io F σ H D s en h => ?_⟩
  refine he ρ S io F σ H _ s en (RS.go en h fun d S1 io1 F1 H1 v e1 n1 s1 r1 h1 => ?_)
  exact h1 io1 F1 H1 (σ.set i (some v)) Nxt.refl s1 ((en.nxt n1).set r1 i)
theorem os_par {i j : Nat} {x y : Str} {mas : MA} {px py pt : Pos} {kt k2 pt2} (hc : X.calm = true) (hN : X.N.Nodup) (ha : OA X W [a, b] mas) (hi : X.N[i]? = some x := by rfl) (hj : X.N[j]? = some y := by rfl) (hij : i ≠ j := by decide)
    (hx : X.env.scope.names.lookup x = some .local := by rfl) (hy : X.env.scope.names.lookup y = some .local := by rfl)
    (hw : swappedStores [.Tuple [.Name x px, .Name y py] kt pt] (.Tuple [a, b] k2 pt2) X.env = pure (some [x, y]) := by rfl)
    (hs : swapsWithSole [.Tuple [.Name x px, .Name y py] kt pt] (.Tuple [a, b] k2 pt2) pos.line X.env = pure false := by rfl) :
    OS X W (.Assign [.Tuple [.Name x px, .Name y py] kt pt] (.Tuple [a, b] k2 pt2) pos) (sPar i j mas) := by
  obtain ⟨t, p, ha⟩ := ha
  refine ⟨_, ps_par hc hN hi hj hij hx hy p hw hs, fun ρ S io F σ H D s en h => ?_⟩
  refine ha ρ S io F σ H _ s en (RS.go en h fun ds S1 io1 F1 H1 vs e1 n1 s1 r1 h1 => ?_)
  match ds, r1, h1 with
  | [d, d2], ⟨v, w, e1, ra, ⟨v2, w2, e2, rb, e3⟩⟩, h1 =>
    have e3 : w2 = [] := e3
    subst e3; subst e2; subst e1
    exact ⟨v, v2, rfl, h1 io1 F1 H1 _ Nxt.refl s1 (((en.nxt n1).set ra i).set rb j)⟩
  | [], _, h1 => exact h1.elim
  | [_], _, h1 => exact h1.elim
  | _ :: _ :: _ :: _, _, h1 => exact h1.elim
theorem os_for {js : List Nat} {it : MI} {g : MG} {body : List Stmt} (hp : PassesOwn (model X.prog X.w) X.A X.env X.xe) (hc : X.calm = true) (hi : OI X W tg iter it) (hg : OG X (fun _ _ _ _ => False) tg js g) (hb : OSs X W body m)
    (hs : ∀ x, foldedSetIterable iter X.env x = pure x := by intro _; rfl) : OS X W (.For tg iter body [] pos) (sFor it g m) := by
  obtain ⟨t, p, hi⟩ := hi
  obtain ⟨u, q, hg⟩ := hg
  obtain ⟨u2, q2, hb⟩ := hb
  refine ⟨_, ps_for hp hc p q q2 hs, fun ρ S io F σ H D s en h => ?_⟩
  refine hi ρ S io F σ H _ s en (RS.go en h fun xs S1 io1 F1 H1 J e1 n1 s1 ij h1 => ?_)
  refine ⟨fun i k σ' H' => k = xs.length - i ∧ i ≤ xs.length ∧ ∃ ρ' S' io' F', Same F1 F' ∧ Sta X.K io' F' S' H' ∧ Mir.Env X.K io' F' ρ' σ' ∧ RS X.K (forGo g m (xs.drop i) ρ' S') io' F' H' D W,
    ⟨xs.length, by simp, Nat.zero_le _, ρ, S1, io1, F1, Same.refl _, s1, en.nxt n1, h1⟩, ?_⟩
  rintro i k σ' H' ⟨rfl, hle, ρ', S', io', F', hF, s', en', h'⟩
  obtain ⟨go, stop⟩ := ij io' F' S' H' i hF s'
  cases hx : xs[i]? with
  | none =>
    have hd : xs.drop i = [] := List.drop_eq_nil_of_le (List.getElem?_eq_none_iff.mp hx)
    rw [hd] at h'
    exact .inl ⟨stop hx, h' io' F' H' σ' Nxt.refl s' en'⟩
  | some x =>
    have hlt : i < xs.length := (List.getElem?_eq_some_iff.mp hx).1
    have hd : xs.drop i = x :: xs.drop (i + 1) := by
      rw [List.drop_eq_getElem_cons hlt]
      congr 1
      exact (List.getElem?_eq_some_iff.mp hx).2
    rw [hd] at h'
    obtain ⟨g1, g2⟩ := go x hx
    refine .inr ⟨g1, fun σ2 H2 => ∃ ρ2 S2 io2 F2, Same F1 F2 ∧ Sta X.K io2 F2 S2 H2 ∧ Mir.Env X.K io2 F2 ρ2 σ2 ∧ RS X.K (forGo g m (xs.drop (i + 1)) ρ2 S2) io2 F2 H2 D W, fun σ2 H2 hn => ⟨xs.length - (i + 1), by omega, rfl, hlt, hn⟩, fun v H'' hy => ?_⟩
    obtain ⟨F'', n2, s2, rv⟩ := g2 v H'' hy
    have h' : RS X.K (((g (.p x) ρ' S').nox).go ρ' fun ρ1 S1 => match m ρ1 S1 with
      | .ok (.nx ρ2) S2 => forGo g m (xs.drop (i + 1)) ρ2 S2
      | .ok (.ct ρ2) S2 => forGo g m (xs.drop (i + 1)) ρ2 S2
      | .ok (.bk ρ2) S2 => .ok (.nx ρ2) S2
      | .ok (.rt d) S2 => .ok (.rt d) S2
      | .ok (.xc ρ2 c x) S2 => .ok (.xc ρ2 c x) S2
      | .bad => .bad) io' F' H' D W := h'
    refine hg (.p x) v ρ' S' io' F'' σ' H'' _ s2 (en'.nxt n2) rv (RS.nox (RS.step n2 h') fun ρ3 S3 io3 F3 H3 σ3 e3 n3 s3 r3 h3 => ?_)
    refine hb ρ3 S3 io3 F3 σ3 H3 _ s3 r3.1 ?_
    have hF3 : Same F1 F3 := (hF.trans n2.fr).trans n3.fr
    cases r : m ρ3 S3 with
    | bad => rw [r] at h3; exact h3
    | ok f S4 =>
      rw [r] at h3
      cases f with
      | nx ρ4 => exact fun io4 F4 H4 σ4 n4 s4 en4 => ⟨ρ4, S4, io4, F4, hF3.trans n4.fr, s4, en4, RS.step n4 h3⟩
      | ct ρ4 => exact fun io4 F4 H4 σ4 n4 s4 en4 => ⟨ρ4, S4, io4, F4, hF3.trans n4.fr, s4, en4, RS.step n4 h3⟩
      | bk ρ4 => exact h3
      | rt d => exact h3
      | xc ρ4 c x => exact h3
end
def tsYes : MT := fun _ S => .ok true S
def lcGo (g : MG) (t : MT) (e : ME) (ρ : En) : List P → Sto → Res (List P)
  | [], S => .ok [] S
  | x :: xs, S => (g (.p x) ρ S).nox.bind fun ρ1 S1 => (t ρ1 S1).nox.bind fun b S2 => match b with
    | true => (e ρ1 S2).nox.bind fun d S3 => (frz d S3).bind fun y S4 => (lcGo g t e ρ xs S4).bind fun ys S5 => .ok (y :: ys) S5
    | false => lcGo g t e ρ xs S2
def eLc (it : MI) (vs : List Nat) (g : MG) (t : MT) (e : ME) : ME := fun ρ S => (it ρ S).bind fun xs S1 => if xs.length ≤ 100000 then (lcGo g t e (wipeE ρ vs) xs S1).bind fun ys S2 => .ok (.p (.lst ys)) S2 else .bad
abbrev W0 : WX := fun _ _ _ _ => False
theorem pts_of_nil {X : Cx} : PTs X [] (tT X.K W0 tsYes) := ⟨fun pins s σ H Q I ⟨ρ, S, io, F, st, en, q⟩ => pts_nil.run pins s σ H Q I (RG.val (R := RepB) (d := true) (v := true) st rfl q)⟩
def OTs (X : Cx) (es : List Expr) (m : MT) : Prop := PTs X es (tT X.K W0 m)
theorem ots_nil {X : Cx} : OTs X [] tsYes := pts_of_nil
section
variable {K : PySem.W.Frag} {Q : VK} {E : XK}
theorem lc_turns {wi : TI} {xs : List P} {J : It} {js vs : List Nat} {g : MG} {t : MT} {e : ME} {ρ : En} {σ : St} {S1 : Sto} {io1 : Io} {F1 H1 : Hp} {fin : List P → Sto → Res Vl} (s1 : Sta K io1 F1 S1 H1) (en : Mir.Env K io1 F1 ρ σ) (hj : ∀ j ∈ js, j ∈ vs)
    (ij : IterOk K F1 xs J) (hz : xs.length ≤ 100000) (h : RG K (RepA K) ((lcGo g t e (wipeE ρ vs) xs S1).bind fin) io1 F1 H1 Q E)
    (D : Addr) (hD : H1 D = none)
    (done : ∀ ys S2 io2 F2 H2 acc, Nxt io1 F1 H1 io2 F2 H2 → Sta K io2 F2 S2 H2 → (∀ k : Nat, io2[k]? ≠ some (some D)) → F2 D = none → H2 D = some (.lst acc) → RepL K F2 ys acc → RG K (RepA K) (fin ys S2) io1 F1 H1 Q E → Q (.ref D) H2) :
    ∃ W : Nat → Nat → Hp → Prop, (∃ m, W 0 m (upd H1 D (.lst []))) ∧ ∀ i m H, W i m H →
      (J.stop i H ∧ Q (.ref D) H) ∨ (J.go i H ∧ ∃ Nx : Hp → Prop, (∀ H', Nx H' → ∃ m', m' < m ∧ W (i + 1) m' H') ∧ ∀ x H', J.yld i H x H' → tG K W0 js g x (L2.wipe σ vs) H' fun σ2 H2 => L2.wipe σ2 vs = L2.wipe σ vs ∧ tT K W0 t σ2 H2 fun b H3 =>
        if b = true then tE K W0 e σ2 H3 fun y H4 => ∃ acc, H4 D = some (.lst acc) ∧ acc.length < sizeLine ∧ Nx (upd H4 D (.lst (acc ++ [y]))) else Nx H3) := by
  let Inv' : Nat → Hp → Prop := fun i H => ∃ S io F acc ys, Nxt io1 F1 H1 io F H ∧ Sta K io F S H ∧ (∀ k : Nat, io[k]? ≠ some (some D)) ∧ F D = none ∧ H D = some (.lst acc) ∧ RepL K F ys acc ∧ ys.length ≤ i ∧ RG K (RepA K) ((lcGo g t e (wipeE ρ vs) (xs.drop i) S).bind fun zs S2 => fin (ys ++ zs) S2) io1 F1 H1 Q E
  refine ⟨fun i m H => m = xs.length - i ∧ i ≤ xs.length ∧ Inv' i H, ⟨xs.length, by simp, Nat.zero_le _, S1, io1, F1, [], [], ?_, s1.side (s1.notIn hD) (Same.free s1.sub hD), s1.notIn hD, Same.free s1.sub hD, upd_same, .nil, Nat.le_refl _, ?_⟩, ?_⟩
  · refine ⟨fun _ _ z => z, fun _ _ z => z, fun a o z _ => ?_, fun _ _ z => .inl z, fun a z => ?_, fun _ z => .inl z⟩
    · rw [upd_ne (ne_of_none z hD)]; exact z
    · by_cases q : a = D
      · subst q; exact hD
      · rw [upd_ne q] at z; exact z
  · exact h
  rintro i m H ⟨rfl, hle, S, io, F, acc, ys, nx, st, nD, fD, hH, ra, hl, hh⟩
  obtain ⟨go, stop⟩ := ij io F S H i nx.fr st
  cases hx : xs[i]? with
  | none =>
    have hd : xs.drop i = [] := List.drop_eq_nil_of_le (List.getElem?_eq_none_iff.mp hx)
    rw [hd] at hh
    have hh : RG K (RepA K) (fin (ys ++ []) S) io1 F1 H1 Q E := hh
    rw [List.append_nil] at hh
    exact .inl ⟨stop hx, done ys S io F H acc nx st nD fD hH ra hh⟩
  | some x =>
    have hlt : i < xs.length := (List.getElem?_eq_some_iff.mp hx).1
    have hd : xs.drop i = x :: xs.drop (i + 1) := by
      rw [List.drop_eq_getElem_cons hlt]
      congr 1
      exact (List.getElem?_eq_some_iff.mp hx).2
    rw [hd] at hh
    obtain ⟨g1, g2⟩ := go x hx
    refine .inr ⟨g1, Inv' (i + 1), fun H' q => ⟨xs.length - (i + 1), by omega, rfl, hlt, q⟩, fun v H'' hy => ?_⟩
    obtain ⟨F'', n2, s2, rv⟩ := g2 v H'' hy
    have keepD : ∀ {io' : Io} {F' : Hp} {H' : Hp}, Nxt io F H io' F' H' → (∀ k : Nat, io'[k]? ≠ some (some D)) ∧ F' D = none ∧ H' D = some (.lst acc) := fun {io' F' H'} n => by
      refine ⟨fun k e => ?_, ?_, n.out D _ hH nD⟩
      · rcases n.new k D e with z | z
        · exact nD k z
        · rw [hH] at z; cases z
      · cases q : F' D with
        | none => rfl
        | some o =>
          rcases n.nf D (by rw [q]; exact fun z => nomatch z) with z | z | ⟨k, z⟩
          · exact absurd fD z
          · rw [hH] at z; cases z
          · exact absurd z (nD k)
    have hh : RG K (RepA K) (((g (.p x) (wipeE ρ vs) S).nox.bind fun ρ1 S1 => (t ρ1 S1).nox.bind fun b S2 => match b with
      | true => (e ρ1 S2).nox.bind fun d S3 => (frz d S3).bind fun y S4 => (lcGo g t e (wipeE ρ vs) (xs.drop (i + 1)) S4).bind fun ys S5 => .ok (y :: ys) S5
      | false => lcGo g t e (wipeE ρ vs) (xs.drop (i + 1)) S2).bind fun zs S2 => fin (ys ++ zs) S2) io1 F1 H1 Q E := hh
    cases q1 : g (.p x) (wipeE ρ vs) S with
    | bad => rw [q1] at hh; exact hh.elim
    | exc c x S => rw [q1] at hh; exact hh.elim
    | ok ρ1 Sa =>
      rw [q1] at hh
      refine ⟨.p x, wipeE ρ vs, S, io, F'', s2, ((en.nxt nx).nxt n2).wipe vs, rv, ?_⟩
      rw [q1]
      intro io3 F3 H3 σ3 n3 s3 r3
      refine ⟨?_, ?_⟩
      · rw [wipe_agree r3.2 hj]
        have key : ∀ (τ : St) (vs : List Nat), L2.wipe (L2.wipe τ vs) vs = L2.wipe τ vs := by
          intro τ vs
          apply List.ext_getElem?
          intro j
          have k2 : ∀ (τ : St) (vs : List Nat) (j : Nat), (L2.wipe τ vs)[j]? = if j ∈ vs then (τ[j]?).map (fun _ => none) else τ[j]? := wipe_get
          rw [k2, k2]
          by_cases hj : j ∈ vs
          · rw [if_pos hj, if_pos hj]
            cases τ[j]? <;> rfl
          · rw [if_neg hj, if_neg hj]
        exact key σ vs
      have hh : RG K (RepA K) (((t ρ1 Sa).nox.bind fun b S2 => match b with
        | true => (e ρ1 S2).nox.bind fun d S3 => (frz d S3).bind fun y S4 => (lcGo g t e (wipeE ρ vs) (xs.drop (i + 1)) S4).bind fun ys S5 => .ok (y :: ys) S5
        | false => lcGo g t e (wipeE ρ vs) (xs.drop (i + 1)) S2).bind fun zs S2 => fin (ys ++ zs) S2) io1 F1 H1 Q E := hh
      cases q2 : t ρ1 Sa with
      | bad => rw [q2] at hh; exact hh.elim
      | exc c x S => rw [q2] at hh; exact hh.elim
      | ok b Sb =>
        rw [q2] at hh
        refine ⟨ρ1, Sa, io3, F3, s3, r3.1, ?_⟩
        rw [q2]
        intro io4 F4 H4 b' n4 s4 r4
        cases r4
        cases b with
        | false =>
          refine iteF ?_
          obtain ⟨d1, d2, d3⟩ := keepD ((n2.trans n3).trans n4)
          exact ⟨Sb, io4, F4, acc, ys, nx.trans ((n2.trans n3).trans n4), s4, d1, d2, d3, RepL.mono ((n2.trans n3).trans n4).fr ra, Nat.le_succ_of_le hl, hh⟩
        | true =>
          refine iteT ?_
          have hh : RG K (RepA K) (((e ρ1 Sb).nox.bind fun d S3 => (frz d S3).bind fun y S4 => (lcGo g t e (wipeE ρ vs) (xs.drop (i + 1)) S4).bind fun ys S5 => .ok (y :: ys) S5).bind fun zs S2 => fin (ys ++ zs) S2) io1 F1 H1 Q E := hh
          cases q3 : e ρ1 Sb with
          | bad => rw [q3] at hh; exact hh.elim
          | exc c x S => rw [q3] at hh; exact hh.elim
          | ok d Sc =>
            rw [q3] at hh
            refine ⟨ρ1, Sb, io4, F4, s4, r3.1.nxt n4, ?_⟩
            rw [q3]
            intro io5 F5 H5 w n5 s5 r5
            have hh : RG K (RepA K) (((frz d Sc).bind fun y S4 => (lcGo g t e (wipeE ρ vs) (xs.drop (i + 1)) S4).bind fun ys S5 => .ok (y :: ys) S5).bind fun zs S2 => fin (ys ++ zs) S2) io1 F1 H1 Q E := hh
            have n15 := ((n2.trans n3).trans n4).trans n5
            cases q4 : frz d Sc with
            | bad => rw [q4] at hh; exact hh.elim
            | exc c x S =>
              exact absurd q4 (frz_nox _ _ _ _ _)
            | ok y Sd =>
              rw [q4] at hh
              obtain ⟨y', Sd', F6, n6, s6, rp, hz6, _⟩ := s5.frz (C := Vl) (D := V) (R' := RepA K) (g := fun _ S => .ok (.p .non) S) (Q := fun _ _ => True) (E := fun _ _ _ => True) r5 (by rw [q4]; exact fun _ _ _ _ _ _ _ => trivial)
              rw [q4] at hz6; cases hz6
              obtain ⟨d1, d2, d3⟩ := keepD (n15.trans n6)
              have hlen : acc.length ≤ i := by rw [ra.length]; exact hl
              refine ⟨acc, d3, sz5l (by omega), ?_⟩
              have nx' := nx.trans (n15.trans n6)
              refine ⟨Sd, io5, F6, acc ++ [w], ys ++ [y], ?_, s6.side d1 d2, d1, d2, upd_same, (RepL.mono (n15.trans n6).fr ra).append (.cons rp .nil), by rw [List.length_append]; exact Nat.succ_le_succ hl, ?_⟩
              · refine ⟨nx'.han, nx'.fr, fun a o z zn => ?_, nx'.new, fun a z => ?_, nx'.nf⟩
                · rw [upd_ne (ne_of_none z hD)]; exact nx'.out a o z zn
                · by_cases q : a = D
                  · subst q; exact hD
                  · rw [upd_ne q] at z; exact nx'.stay a z
              · have hh : RG K (RepA K) (((lcGo g t e (wipeE ρ vs) (xs.drop (i + 1)) Sd).bind fun ys S5 => Res.ok (y :: ys) S5).bind fun zs S2 => fin (ys ++ zs) S2) io1 F1 H1 Q E := hh
                have q5 : (((lcGo g t e (wipeE ρ vs) (xs.drop (i + 1)) Sd).bind fun ys S5 => Res.ok (y :: ys) S5).bind fun zs S2 => fin (ys ++ zs) S2) = (lcGo g t e (wipeE ρ vs) (xs.drop (i + 1)) Sd).bind fun zs S2 => fin (ys ++ [y] ++ zs) S2 := by
                  cases lcGo g t e (wipeE ρ vs) (xs.drop (i + 1)) Sd with
                  | bad => rfl
                  | exc c x S => rfl
                  | ok zs S =>
                    show fin (ys ++ (y :: zs)) S = fin (ys ++ [y] ++ zs) S
                    rw [List.append_assoc]
                    rfl
                rw [q5] at hh
                exact hh
end
section
variable {X : Cx} {W : WX} {elt tg iter : Expr} {ifs : List Expr} {scope : Scope} {own : List (Str × Nat)} {pos : Pos} {it : MI} {js : List Nat} {g : MG} {t : MT} {e : ME}
theorem oe_lc (hc : X.calm = true) (hN : X.N.Nodup) (hi : OI X W tg iter it) (ok : BlkOk X.N X.env.scope scope own) (hj : ∀ j ∈ js, j ∈ own.map (·.2))
    (hg : ∀ (s : Shared) (H : Hp) (C : Addr) (cl : List (Str × Addr)) (fp : List Addr), OG (X.blk s H scope (compEnvC scope cl C X.env) fp) W0 tg js g) (ht : ∀ (s : Shared) (H : Hp) (C : Addr) (cl : List (Str × Addr)) (fp : List Addr), OTs (X.blk s H scope (compEnvC scope cl C X.env) fp) ifs t)
    (he : ∀ (s : Shared) (H : Hp) (C : Addr) (cl : List (Str × Addr)) (fp : List Addr), OE (X.blk s H scope (compEnvC scope cl C X.env) fp) W0 elt e) (hs : ∀ x, foldedSetIterable iter X.env x = pure x := by intro _; rfl) :
    OE X W (.ListComp elt [⟨tg, iter, ifs, 0⟩] scope pos) (eLc it (own.map (·.2)) g t e) := by
  obtain ⟨wi, p, hi⟩ := hi
  refine ⟨_, pe_lc (g := tG X.K W0 js g) (tt := tT X.K W0 t) (te := tE X.K W0 e) hc hN p ok (fun s H C cl fp => (hg s H C cl fp).pg) (fun s H C cl fp => ht s H C cl fp) (fun s H C cl fp => (he s H C cl fp).pe) hs, fun ρ S io F σ H Q st en h => ?_⟩
  refine hi ρ S io F σ H _ st en (RG.bind h fun xs S1 io1 F1 H1 J e1 n1 s1 ij h1 => ?_)
  intro D hD
  by_cases hz : xs.length ≤ 100000
  · rw [if_pos hz] at h1
    refine lc_turns (wi := wi) s1 (en.nxt n1) hj ij hz h1 D hD fun ys S2 io2 F2 H2 acc nx s2 nD fD hH ra h2 => ?_
    refine h2 io2 (upd F2 D (.lst acc)) H2 (.ref D) ?_ ?_ ⟨D, acc, rfl, upd_same, RepL.mono (upd_same_of fD) ra⟩
    · refine ⟨nx.han, nx.fr.trans (upd_same_of fD), nx.out, nx.new, nx.stay, fun a z => ?_⟩
      by_cases q : a = D
      · subst q; exact .inr (.inl hD)
      · rw [upd_ne q] at z; exact nx.nf a z
    · refine ⟨s2.len, s2.inj, fun a u z => ?_, s2.trk, fun k c z => ?_⟩
      · by_cases q : a = D
        · subst q; rw [upd_same] at z; cases z; exact hH
        · rw [upd_ne q] at z; exact s2.sub _ _ z
      · refine (s2.cel k c z).mono (fun _ _ z => z) (upd_same_of fD) (fun b hb hn => ?_) fun _ _ _ hu => hu
        rw [upd_ne (fun q => by subst q; exact nD k hb)]
        exact hn
  · rw [if_neg hz] at h1
    exact h1.elim
theorem os_setLc {i : Nat} {y : Str} {py spos : Pos} (hc : X.calm = true) (hN : X.N.Nodup) (hi : OI X W tg iter it) (ok : BlkOk X.N X.env.scope scope own) (hj : ∀ j ∈ js, j ∈ own.map (·.2))
    (hg : ∀ (s : Shared) (H : Hp) (C : Addr) (cl : List (Str × Addr)) (fp : List Addr), OG (X.blk s H scope (compEnvC scope cl C X.env) fp) W0 tg js g) (ht : ∀ (s : Shared) (H : Hp) (C : Addr) (cl : List (Str × Addr)) (fp : List Addr), OTs (X.blk s H scope (compEnvC scope cl C X.env) fp) ifs t)
    (he : ∀ (s : Shared) (H : Hp) (C : Addr) (cl : List (Str × Addr)) (fp : List Addr), OE (X.blk s H scope (compEnvC scope cl C X.env) fp) W0 elt e) (hy : X.N[i]? = some y := by rfl) (hyl : X.env.scope.names.lookup y = some .local := by rfl)
    (hsw : swapsWith (.ListComp elt [⟨tg, iter, ifs, 0⟩] scope pos) (some (.Name y py)) spos.line X.env = pure true := by exact sw_true rfl rfl rfl (by decide +kernel)) (hs : ∀ x, foldedSetIterable iter X.env x = pure x := by intro _; rfl) :
    OS X W (.Assign [.Name y py] (.ListComp elt [⟨tg, iter, ifs, 0⟩] scope pos) spos) (sAsg (eLc it (own.map (·.2)) g t e) (gNm i)) := by
  have := oe_lc (pos := pos) hc hN hi ok hj hg ht he hs
  obtain ⟨wi, p, hi⟩ := hi
  refine ⟨_, ps_setLc (g := tG X.K W0 js g) (tt := tT X.K W0 t) (te := tE X.K W0 e) hc hN hy hyl hsw p ok (fun s H C cl fp => (hg s H C cl fp).pg) (fun s H C cl fp => ht s H C cl fp) (fun s H C cl fp => (he s H C cl fp).pe) hs, fun ρ S io F σ H D' st en h => ?_⟩
  have h := RS.go (R := RepA X.K) (Q1 := fun v H1 => gName i v σ H1 D'.nx) en h fun d S1 io1 F1 H1 v e1 n1 s1 r1 h1 => h1 io1 F1 H1 (σ.set i (some v)) Nxt.refl s1 ((en.nxt n1).set r1 i)
  show tLc wi _ _ _ _ σ H (fun v H1 => gName i v σ H1 D'.nx)
  refine hi ρ S io F σ H _ st en (RG.bind h fun xs S1 io1 F1 H1 J e1 n1 s1 ij h1 => ?_)
  intro D hD
  by_cases hz : xs.length ≤ 100000
  · rw [if_pos hz] at h1
    refine lc_turns (wi := wi) s1 (en.nxt n1) hj ij hz h1 D hD fun ys S2 io2 F2 H2 acc nx s2 nD fD hH ra h2 => ?_
    refine h2 io2 (upd F2 D (.lst acc)) H2 (.ref D) ?_ ?_ ⟨D, acc, rfl, upd_same, RepL.mono (upd_same_of fD) ra⟩
    · refine ⟨nx.han, nx.fr.trans (upd_same_of fD), nx.out, nx.new, nx.stay, fun a z => ?_⟩
      by_cases q : a = D
      · subst q; exact .inr (.inl hD)
      · rw [upd_ne q] at z; exact nx.nf a z
    · refine ⟨s2.len, s2.inj, fun a u z => ?_, s2.trk, fun k c z => ?_⟩
      · by_cases q : a = D
        · subst q; rw [upd_same] at z; cases z; exact hH
        · rw [upd_ne q] at z; exact s2.sub _ _ z
      · refine (s2.cel k c z).mono (fun _ _ z => z) (upd_same_of fD) (fun b hb hn => ?_) fun _ _ _ hu => hu
        rw [upd_ne (fun q => by subst q; exact nD k hb)]
        exact hn
  · rw [if_neg hz] at h1
    exact h1.elim
end
end Mir

namespace Mir
open PySem L2
def isL (S : Sto) : Vl → Bool
  | .p (.lst _) => true
  | .c k => (match S[k]? with
    | some (.lst _) => true
    | some (.lsv _) => true
    | _ => false)
  | _ => false
section
variable {K : PySem.W.Frag} {io : Io} {F : Hp} {S : Sto} {H : Hp}
theorem Sta.isL (st : Sta K io F S H) {d : Vl} {v : V} (r : RepV K io F d v) (h : Mir.isL S d = true) : tyV K "list" v H := by
  cases d with
  | p x =>
    cases x with
    | lst xs =>
      obtain ⟨a, vs, rfl, h1, _⟩ := r
      exact .inl ⟨rfl, vs, SqL.of (st.sub _ _ h1)⟩
    | _ => cases h
  | c k =>
    obtain ⟨a, ha, rfl⟩ := r
    unfold Mir.isL at h
    dsimp only at h
    cases hk : S[k]? with
    | none => rw [hk] at h; cases h
    | some c =>
      rw [hk] at h
      cases c with
      | lst xs =>
        obtain ⟨b, vs, hb, _, hH, _⟩ := st.cel k _ hk
        rw [ha] at hb; cases hb
        exact .inl ⟨rfl, vs, SqL.of hH⟩
      | lsv xs =>
        obtain ⟨b, vs, hb, _, hH, _⟩ := st.cel k _ hk
        rw [ha] at hb; cases hb
        exact .inl ⟨rfl, vs, SqL.of hH⟩
      | _ => cases h
theorem Sta.wlst (st : Sta K io F S H) {k : Nat} {a : Addr} {c : Cell} {xs : List P} {vs : List V} (hk : S[k]? = some c) (hc : ∀ x, c ≠ .fz x) (hc2 : c ≠ .res) (hc3 : ∀ ys, c ≠ .tup ys) (ha : io[k]? = some (some a)) (r : RepL K F xs vs) (hc4 : ∀ ys, c ≠ .dvs ys ∧ c ≠ .tpz ys := by exact fun _ => ⟨(fun z => nomatch z), (fun z => nomatch z)⟩) :
    Sta K io F (S.set k (.lst xs)) (upd H a (.lst vs)) ∧ Nxt io F H io F (upd H a (.lst vs)) := by
  obtain ⟨b, o, hb, hF, hH⟩ := (st.cel k c hk).there hc ⟨hc2, fun j' a' z => by subst z; obtain ⟨z1, _⟩ := st.cel k _ hk; rw [ha] at z1; cases z1⟩ hc3 hc4
  rw [ha] at hb; cases hb
  exact st.write ha hF ⟨a, vs, ha, hF, upd_same, r⟩
theorem Sta.wlsv (st : Sta K io F S H) {k : Nat} {a : Addr} {c : Cell} {xs : List Vl} {vs : List V} (hk : S[k]? = some c) (hc : ∀ x, c ≠ .fz x) (hc2 : c ≠ .res) (hc3 : ∀ ys, c ≠ .tup ys) (ha : io[k]? = some (some a)) (r : RepVs K io F xs vs) (hj : ∀ j, Vl.c j ∈ xs → j < k) (hc4 : ∀ ys, c ≠ .dvs ys ∧ c ≠ .tpz ys := by exact fun _ => ⟨(fun z => nomatch z), (fun z => nomatch z)⟩) :
    Sta K io F (S.set k (.lsv xs)) (upd H a (.lst vs)) ∧ Nxt io F H io F (upd H a (.lst vs)) := by
  obtain ⟨b, o, hb, hF, hH⟩ := (st.cel k c hk).there hc ⟨hc2, fun j' a' z => by subst z; obtain ⟨z1, _⟩ := st.cel k _ hk; rw [ha] at z1; cases z1⟩ hc3 hc4
  rw [ha] at hb; cases hb
  exact st.write ha hF ⟨a, vs, ha, hF, upd_same, r, hj⟩
end
abbrev FM := Vl → List Vl → Sto → Res Vl
def MutOk (K : PySem.W.Frag) (r : V → List V → Hp → VK → Prop) (f : FM) : Prop := ∀ (io : Io) (F : Hp) (S : Sto) (H : Hp) (d : Vl) (v : V) (ds : List Vl) (vs : List V) (Q : VK) (E : XK), Sta K io F S H → RepV K io F d v → RepVs K io F ds vs →
  RG K (RepA K) (f d ds S) io F H Q E → r v vs H Q
def eMut (g : Sto → Vl → Bool) (f : FM) (o : ME) (a : MA) : ME := fun ρ S => (o ρ S).bind fun d S1 => if g S1 d then (a ρ S1).bind fun ds S2 => f d ds S2 else .bad
def GuardOk (K : PySem.W.Frag) (T : String) (g : Sto → Vl → Bool) : Prop := ∀ (io : Io) (F : Hp) (S : Sto) (H : Hp) (d : Vl) (v : V), Sta K io F S H → RepV K io F d v → g S d = true → tyV K T v H
theorem guardL {K : PySem.W.Frag} : GuardOk K "list" isL := fun io F S H d v st r h => st.isL r h
section
variable {X : Cx} {W : WX} {a b c e o : Expr} {ma mb mc mo : ME} {pos apos : Pos} {es : List Expr} {mas : MA}
theorem oe_mut {T id : String} {name : Str} {r : V → List V → Hp → VK → Prop} {g : Sto → Vl → Bool} {f : FM} (pa : PlainAttrs T) (slot : Slot T name id) (hty : typeOf (.builtin id) = pure (.type "method_descriptor")) (hm : MtR X id r) (hg : GuardOk X.K T g) (hf : MutOk X.K r f)
    (ho : OE X W o mo) (ha : OA X W (e :: es) mas)
    (hbase : attributeBase o name X.env (eval o X.env) = eval o X.env := by rfl)
    (hfew : ((backTo pos (starEach (e :: es) X.env)).all (fun x => !x.1) && (backToKw pos (keywordEach [] X.env)).all (fun x => x.1.isSome)
      && decide ((e :: es).length + ([] : List Keyword).length + (if ([] : List Keyword).isEmpty then 0 else 1) < 30)) = true := by rfl)
    (hline : (apos.endLine == pos.line) = true := by rfl) (hs : starEach (e :: es) X.env = (false, eval e X.env) :: starEach es X.env := by rfl) (hplain : (backTo pos (starEach es X.env)).any (·.1) = false := by rfl) :
    OE X W (.Call (.Attribute o name apos) (e :: es) [] pos) (eMut g f mo mas) := by
  obtain ⟨u, p, ho⟩ := ho
  obtain ⟨t, q, ha⟩ := ha
  refine ⟨_, pe_bm pa slot hty hm p q hbase hfew hline hs hplain, fun ρ S io F σ H Q st en h => ?_⟩
  refine ho ρ S io F σ H _ st en (RG.bind h fun d S1 io1 F1 H1 v e1 n1 s1 r1 h1 => ?_)
  by_cases q2 : g S1 d = true
  · rw [if_pos q2] at h1
    refine ⟨hg _ _ _ _ _ _ s1 r1 q2, ?_⟩
    refine ha ρ S1 io1 F1 σ H1 _ s1 (en.nxt n1) (RG.bind h1 fun d2 S2 io2 F2 H2 v2 e2 n2 s2 r2 h2 => ?_)
    exact hf io2 F2 S2 H2 d v d2 v2 Q _ s2 (r1.mono n2.han n2.fr) r2 h2
  · rw [if_neg q2] at h1
    exact h1.elim
def fApp : FM := fun d ds S => match d, ds with
  | .c k, [y] => (match S[k]? with
    | some (.lst _) => (frz y S).bind fun z S1 => (match S1[k]? with
      | some (.lst xs) => if xs.length < 100000 then .ok (.p .non) (S1.set k (.lst (xs ++ [z]))) else .bad
      | _ => .bad)
    | some (.lsv xs) => if xs.length < 100000 then (match y with
      | .p _ => .ok (.p .non) (S.set k (.lsv (xs ++ [y])))
      | .c j => if j < k then .ok (.p .non) (S.set k (.lsv (xs ++ [y]))) else .bad) else .bad
    | _ => .bad)
  | _, _ => .bad
theorem ok_app {K : PySem.W.Frag} : MutOk K rAppend fApp := by
  intro io F S H d v ds vs Q E st r1 r2 h
  match d, ds, r1, r2, h with
  | .p x, ds, _, _, h => exact h.elim
  | .c k, [], _, _, h => exact h.elim
  | .c k, _ :: _ :: _, _, _, h => exact h.elim
  | .c k, [y], r1, r2, h =>
    obtain ⟨a, ha, rfl⟩ := r1
    obtain ⟨w, rfl, rw'⟩ := r2.one
    unfold fApp at h
    dsimp only at h
    cases hk : S[k]? with
    | none => rw [hk] at h; exact h.elim
    | some c =>
      rw [hk] at h
      cases c with
      | lst xs0 =>
        dsimp only at h
        obtain ⟨z, S1, F1, n1, s1, rp, hz, h1⟩ := st.frz rw' h
        cases hk1 : S1[k]? with
        | none => rw [hk1] at h1; exact h1.elim
        | some c1 =>
          rw [hk1] at h1
          cases c1 with
          | lst xs =>
            dsimp only at h1
            by_cases q : xs.length < 100000
            · rw [if_pos q] at h1
              obtain ⟨b, us, hb, hF, hH, hr⟩ := s1.cel k _ hk1
              rw [ha] at hb; cases hb
              refine ⟨a, us, w, rfl, rfl, hH, by rw [hr.length]; exact sz5l q, ?_⟩
              obtain ⟨s2, n2⟩ := s1.wlst hk1 (fun _ z => nomatch z) (fun z => nomatch z) (fun _ z => nomatch z) ha (hr.append (.cons rp .nil))
              exact h1 io F1 _ .non n2 s2 rfl
            · rw [if_neg q] at h1; exact h1.elim
          | _ => exact h1.elim
      | lsv xs =>
        dsimp only at h
        by_cases q : xs.length < 100000
        · rw [if_pos q] at h
          obtain ⟨b, us, hb, hF, hH, hr, hlt⟩ := st.cel k _ hk
          rw [ha] at hb; cases hb
          refine ⟨a, us, w, rfl, rfl, hH, by rw [hr.length]; exact sz5l q, ?_⟩
          have key : ∀ (hj : ∀ j, y = .c j → j < k), RG K (RepA K) (.ok (.p .non) (S.set k (.lsv (xs ++ [y])))) io F H Q E → Q .non (upd H a (.lst (us ++ [w]))) := fun hj h => by
            obtain ⟨s2, n2⟩ := st.wlsv hk (fun _ z => nomatch z) (fun z => nomatch z) (fun _ z => nomatch z) ha (hr.append (ys := [y]) (ws := [w]) ⟨w, [], rfl, rw', rfl⟩) (fun j hm => by
              rcases List.mem_append.mp hm with z | z
              · exact hlt j z
              · exact hj j (List.mem_singleton.mp z).symm)
            exact h io F _ .non n2 s2 rfl
          cases y with
          | p x => exact key (fun j z => nomatch z) h
          | c j =>
            dsimp only at h
            by_cases q2 : j < k
            · rw [if_pos q2] at h
              exact key (fun i z => by cases z; exact q2) h
            · rw [if_neg q2] at h; exact h.elim
        · rw [if_neg q] at h; exact h.elim
      | _ => exact h.elim
theorem oe_append (ho : OE X W o mo) (ha : OE X W a ma) (hbase : attributeBase o "append" X.env (eval o X.env) = eval o X.env := by rfl)
    (hfew : ((backTo pos (starEach [a] X.env)).all (fun x => !x.1) && (backToKw pos (keywordEach [] X.env)).all (fun x => x.1.isSome)
      && decide (([a] : List Expr).length + ([] : List Keyword).length + (if ([] : List Keyword).isEmpty then 0 else 1) < 30)) = true := by rfl) (hline : (apos.endLine == pos.line) = true := by rfl) (hs : starEach [a] X.env = (false, eval a X.env) :: starEach [] X.env := by rfl) :
    OE X W (.Call (.Attribute o "append" apos) [a] [] pos) (eMut isL fApp mo (aCons ma aNil)) := oe_mut PySem.F.plainAttrs_list PySem.F.slot_list_append PySem.F.type_list_append mt_append guardL ok_app ho (oa_cons ha oa_nil hs) hbase hfew hline hs rfl
def ixV (d i : Vl) (S : Sto) : Res Vl := match d, i with
  | .c k, .p (.int j) => (match S[k]? with
    | some (.lsv xs) => (match atI xs j with
      | some x => .ok x S
      | none => .bad)
    | _ => op2 pIx d i S)
  | _, _ => op2 pIx d i S
def eItem (a b : ME) : ME := fun ρ S => (a ρ S).bind fun d S1 => (b ρ S1).bind fun i S2 => ixV (nv S2 d) i S2
theorem atI_repV {K : PySem.W.Frag} {io : Io} {F : Hp} {xs : List Vl} {vs : List V} {i : Int} {z : Vl} (r : RepVs K io F xs vs) (e : atI xs i = some z) : ∃ v, atI vs i = some v ∧ RepV K io F z v := by
  unfold atI at e ⊢
  rw [r.length]
  cases q : ixN xs.length i with
  | none => rw [q] at e; cases e
  | some k =>
    rw [q] at e
    exact r.get e
theorem oe_it (ha : OE X W a ma) (hb : OE X W b mb) (hs : PlainIx b := by intro _ _; rfl) : OE X W (.Subscript a b pos) (eItem ma mb) := by
  obtain ⟨ta, pa, ha⟩ := ha
  obtain ⟨tb, pb, hb⟩ := hb
  refine ⟨_, pe_ix (IxR.or (IxR.or ix_list ix_tup) ix_str) pa pb hs, fun ρ S io F σ H Q st en h => ?_⟩
  refine ha ρ S io F σ H _ st en (RG.bind h fun d S1 io1 F1 H1 v e1 n1 s1 r1 h1 => ?_)
  refine hb ρ S1 io1 F1 σ H1 _ s1 (en.nxt n1) (RG.bind h1 fun d2 S2 io2 F2 H2 v2 e2 n2 s2 r2 h2 => ?_)
  replace r1 := s2.nv (r1.mono n2.han n2.fr)
  generalize nv S2 d = d at r1 h2
  unfold ixV at h2
  split at h2
  · rename_i k j
    split at h2
    · rename_i xs hk
      cases hx : atI xs j with
      | none => rw [hx] at h2; exact h2.elim
      | some x =>
        rw [hx] at h2
        obtain ⟨a', ha', rfl⟩ := r1
        have r2 : v2 = .int j := r2
        subst r2
        obtain ⟨b, us, hb, hF, hH, hr, _⟩ := s2.cel k _ hk
        rw [ha'] at hb; cases hb
        obtain ⟨u, hu, ru⟩ := atI_repV hr hx
        exact .inl (.inl ⟨a', us, j, u, rfl, rfl, SqL.of hH, hu, h2 io2 F2 H2 u Nxt.refl s2 ru⟩)
    · exact s2.op2 ok_ix r1 r2 h2
  · exact s2.op2 ok_ix r1 r2 h2
def setV (o i v : Vl) (S : Sto) : Res Unit := match o, i with
  | .c k, .p (.int j) => (match S[k]? with
    | some (.lst _) => (frz v S).bind fun z S1 => (match S1[k]? with
      | some (.lst xs) => (match ixN xs.length j with
        | some n => .ok () (S1.set k (.lst (xs.set n z)))
        | none => .bad)
      | _ => .bad)
    | some (.lsv xs) => (match ixN xs.length j with
      | some n => (match v with
        | .p _ => .ok () (S.set k (.lsv (xs.set n v)))
        | .c m => if m < k then .ok () (S.set k (.lsv (xs.set n v))) else .bad)
      | none => .bad)
    | _ => .bad)
  | _, _ => .bad
def gSubM (o i : ME) : MG := fun d ρ S => (o ρ S).nox.bind fun a S1 => (i ρ S1).nox.bind fun b S2 => (setV a b d S2).bind fun _ S3 => .ok ρ S3
theorem Sta.setV {K : PySem.W.Frag} {io : Io} {F : Hp} {S : Sto} {H : Hp} {o i d : Vl} {vo vi v : V} {C D : Type} {R' : Io → Hp → C → D → Prop} {g : Unit → Sto → Res C} {Q : D → Hp → Prop} {E : XK} (st : Sta K io F S H) (ro : RepV K io F o vo) (ri : RepV K io F i vi) (rv : RepV K io F d v)
    (h : RG K R' ((Mir.setV o i d S).bind g) io F H Q E) : ∃ p xs k j, vo = .ref p ∧ vi = .int k ∧ H p = some (.lst xs) ∧ ixN xs.length k = some j ∧ ∃ S' F', Nxt io F H io F' (upd H p (.lst (xs.set j v))) ∧ Sta K io F' S' (upd H p (.lst (xs.set j v))) ∧ RG K R' (g () S') io F' (upd H p (.lst (xs.set j v))) Q E := by
  unfold Mir.setV at h
  split at h
  · rename_i k j
    obtain ⟨a, ha, rfl⟩ := ro
    have ri : vi = .int j := ri
    subst ri
    cases hk : S[k]? with
    | none => rw [hk] at h; exact h.elim
    | some c =>
      rw [hk] at h
      cases c with
      | lst xs0 =>
        dsimp only at h
        have q : ((Mir.frz d S).bind fun z S1 => (match S1[k]? with
          | some (.lst xs) => (match ixN xs.length j with
            | some n => Res.ok () (S1.set k (.lst (xs.set n z)))
            | none => .bad)
          | _ => .bad)).bind g = (Mir.frz d S).bind fun z S1 => (match S1[k]? with
          | some (.lst xs) => (match ixN xs.length j with
            | some n => Res.ok () (S1.set k (.lst (xs.set n z)))
            | none => .bad)
          | _ => .bad).bind g := by cases Mir.frz d S <;> rfl
        rw [q] at h
        obtain ⟨z, S1, F1, n1, s1, rp, hz, h1⟩ := st.frz rv h
        cases hk1 : S1[k]? with
        | none => rw [hk1] at h1; exact h1.elim
        | some c1 =>
          rw [hk1] at h1
          cases c1 with
          | lst xs =>
            dsimp only at h1
            cases hn : ixN xs.length j with
            | none => rw [hn] at h1; exact h1.elim
            | some n =>
              rw [hn] at h1
              obtain ⟨b, us, hb, hF, hH, hr⟩ := s1.cel k _ hk1
              rw [ha] at hb; cases hb
              obtain ⟨s2, n2⟩ := s1.wlst hk1 (fun _ z => nomatch z) (fun z => nomatch z) (fun _ z => nomatch z) ha (hr.set n rp)
              exact ⟨a, us, j, n, rfl, rfl, hH, by rw [hr.length]; exact hn, _, F1, n1.trans n2, s2, RG.step n2 h1⟩
          | _ => exact h1.elim
      | lsv xs =>
        dsimp only at h
        cases hn : ixN xs.length j with
        | none => rw [hn] at h; exact h.elim
        | some n =>
          rw [hn] at h
          obtain ⟨b, us, hb, hF, hH, hr, hlt⟩ := st.cel k _ hk
          rw [ha] at hb; cases hb
          have key : ∀ (hj : ∀ j, d = .c j → j < k), RG K R' ((Res.ok () (S.set k (.lsv (xs.set n d)))).bind g) io F H Q E → ∃ S' F', Nxt io F H io F' (upd H a (.lst (us.set n v))) ∧ Sta K io F' S' (upd H a (.lst (us.set n v))) ∧ RG K R' (g () S') io F' (upd H a (.lst (us.set n v))) Q E := fun hj h => by
            obtain ⟨s2, n2⟩ := st.wlsv hk (fun _ z => nomatch z) (fun z => nomatch z) (fun _ z => nomatch z) ha (hr.set n rv) (fun j hm => by
              rcases List.mem_or_eq_of_mem_set hm with z | z
              · exact hlt j z
              · exact hj j z.symm)
            exact ⟨_, F, n2, s2, RG.step n2 h⟩
          refine ⟨a, us, j, n, rfl, rfl, hH, by rw [hr.length]; exact hn, ?_⟩
          cases d with
          | p x => exact key (fun j z => nomatch z) h
          | c m =>
            dsimp only at h
            by_cases q2 : m < k
            · rw [if_pos q2] at h
              exact key (fun i z => by cases z; exact q2) h
            · rw [if_neg q2] at h; exact h.elim
      | _ => exact h.elim
  · exact h.elim
theorem og_sub (ho : OE X W0 o mo) (hi : OE X W0 a ma)
    (hs : ∀ v, assign (.Subscript o a pos) X.env v = (do
      let ov ← holding [v] (eval o X.env)
      let iv ← holding [v, ov] (eval a X.env)
      standAt pos
      holding [v, ov, iv] (setItem ov iv v)
      release [v, ov, iv] []) := by intro _; rfl) : OG X W0 (.Subscript o a pos) [] (gSubM mo ma) := by
  obtain ⟨to, po, ho⟩ := ho
  obtain ⟨ti, pi, hi⟩ := hi
  refine ⟨_, pg_sub po pi set_list hs, fun d v ρ S io F σ H Q st en rv h => ?_⟩
  refine ho ρ S io F σ H _ st en (RG.nox h fun d1 S1 io1 F1 H1 v1 e1 n1 s1 r1 h1 => ?_)
  refine hi ρ S1 io1 F1 σ H1 _ s1 (en.nxt n1) (RG.nox h1 fun d2 S2 io2 F2 H2 v2 e2 n2 s2 r2 h2 => ?_)
  obtain ⟨p, xs, k, j, e3, e4, hp, hj, S3, F3, n3, s3, h3⟩ := s2.setV (r1.mono n2.han n2.fr) r2 (rv.mono (n1.trans n2).han (n1.trans n2).fr) h2
  exact ⟨p, xs, k, j, e3, e4, hp, hj, h3 io2 F3 _ σ Nxt.refl s3 ⟨en.nxt ((n1.trans n2).trans n3), agree_refl⟩⟩
end
end Mir

namespace Mir
open PySem L2
theorem RoomG.deeper {k : Nat} {A : Around} (r : RoomG (k + 1) A) (env : PySem.Env) : RoomG k (A.deeper env) := ⟨r.r.deeper env, r.gd⟩
theorem RoomG.in1 {k : Nat} {A : Around} (r : RoomG (k + 1) A) : RoomG k A.in1 := ⟨r.r.in1, r.gd⟩
theorem make_guards {A : Around} {C : Addr} {us : List Value} {kw : List (Str × Value)} (h : A.guards = some []) : (A.under (.builtin "type.__call__" ⟨.ref C :: us, kw⟩)).guards = some [] := by
  have e : (Code.builtin "type.__call__" ⟨.ref C :: us, kw⟩).guards = [] := by
    unfold Code.guards
    rw [if_neg]
    show ¬ (guardIds.contains "type.__call__" = true)
    decide +kernel
  show pushGuards (Code.builtin "type.__call__" ⟨.ref C :: us, kw⟩).guards A.guards = some []
  rw [e, h]
  rfl
theorem RoomG.make {k : Nat} {A : Around} (r : RoomG (k + 1) A) (C : Addr) (us : List Value) (kw : List (Str × Value)) : RoomG k (A.under (.builtin "type.__call__" ⟨.ref C :: us, kw⟩)) := ⟨r.r.make C us kw, make_guards r.gd⟩
theorem fnG_ofC {P : Program} {w : World} {K : PySem.W.Frag} {mg : Str → Option Value} {base : Heap} {x qual : Str} {params : Arguments} {body : List Stmt} {scope : Scope} {dvs : List V} {kws : List (Str × V)} {f : Addr} {fd : FuncData} {N ps : List Str} {k : Nat} {sp : Sp}
    (F : FunD K x qual params body scope dvs kws f fd) (S : FnScope N ps scope) (len : ∀ vs H Q E, sp vs H Q E → vs.length = ps.length)
    (hbody : ∀ (cdv : Value) (A : Around) (outer : List PySem.Env) (s : Shared) (H : Hp) (vs : List V) (Q : VK) (E : XK), fd.code = cdv → RoomG k (A.deeper (PyProof.Rows.envOfC qual scope s.heap.objs.size f cdv)) → sp vs H Q E →
      ∃ t, PSs (cxOf (L2.CX P w) P w K mg base N qual scope f cdv A outer s H E) body t ∧ t { nx := fun _ H' => Q .non H', rt := Q } (L2.start N vs) H) : FnG P w K mg base (k + 1) f fd ps sp := by
  obtain ⟨oc, od, dV, kV, doc, pm, an, cdv, ct, osl, rfl, lk, hcd, _, _⟩ := F.ex
  refine ⟨len, fun A outer s H args us vs Q E hr e0 hb r hsp => ?_⟩
  have KX : K.In s.heap := e0.mod.kin.keeps fun b o e => (e0.bs b o e).1
  have lim : s.heap.NoLimit := e0.mod.nolimit.keeps fun b o e => (e0.bs b o e).1
  refine codeAny_call_function hr.r.depth (KX _ _ lk) rfl S.co S.gen rfl (PySem.W.codeRec_of KX hcd) (hb _ _ _ _ ?_)
  refine wpAny_newFunctionEnv_cells S.kind (fun y hy => ?_) fun env he s1 x => ?_
  · rcases S.par y.1 (List.of_mem_zip hy).1 with q | q
    · exact .inl q
    · exact .inr ⟨q, PySem.W.cellsFrom_some _ _ _ (.inl q)⟩
  · subst he
    obtain ⟨t, ht, hq⟩ := hbody cdv A outer s H vs Q E rfl (hr.deeper _) hsp
    refine ⟨lim.keeps x.toInCall.keep, codeAny_func ?_⟩
    refine wpAny_mono (ht.run [] s1 (L2.start N vs) H _ (inv_start S hr.r.hd e0 (len _ _ _ _ hsp) r x) hq) (fun fl s' hs => ?_) fun e s' hs => hs
    cases fl with
    | ret u =>
      obtain ⟨v, σ', H', J, rv, q⟩ := hs
      exact ⟨v, H', J.os, J.bare, J.base, J.hok, rv, q⟩
    | next =>
      obtain ⟨σ', H', J, q⟩ := hs
      exact ⟨.non, H', J.os, J.bare, J.base, J.hok, rfl, q⟩
    | brk =>
      obtain ⟨_, _, _, q⟩ := hs
      exact q.elim
    | cont =>
      obtain ⟨_, _, _, q⟩ := hs
      exact q.elim
theorem fnG_of {P : Program} {w : World} {K : PySem.W.Frag} {mg : Str → Option Value} {base : Heap} {x qual : Str} {params : Arguments} {body : List Stmt} {scope : Scope} {dvs : List V} {kws : List (Str × V)} {f : Addr} {fd : FuncData} {N ps : List Str} {k : Nat} {sp : Sp}
    (F : FunD K x qual params body scope dvs kws f fd) (S : FnScope N ps scope) (len : ∀ vs H Q E, sp vs H Q E → vs.length = ps.length)
    (hbody : ∀ (cdv : Value) (A : Around) (outer : List PySem.Env) (s : Shared) (H : Hp) (vs : List V) (Q : VK) (E : XK), RoomG k (A.deeper (PyProof.Rows.envOfC qual scope s.heap.objs.size f cdv)) → sp vs H Q E →
      ∃ t, PSs (cxOf (L2.CX P w) P w K mg base N qual scope f cdv A outer s H E) body t ∧ t { nx := fun _ H' => Q .non H', rt := Q } (L2.start N vs) H) : FnG P w K mg base (k + 1) f fd ps sp := fnG_ofC F S len fun cdv A outer s H vs Q E _ => hbody cdv A outer s H vs Q E
theorem run_fnG {X : Cx} {k : Nat} {f : Addr} {fd : FuncData} {ps : List Str} {sp : Sp} {E : St → XK} {pins : List (Addr × Obj)} {σ : St} {H : Hp} {s : Shared} {Q : VK} {us : List Value} {vs : List V} (F : FnG X.prog X.w X.K X.mg X.base k f fd ps sp) (hr : RoomG k X.A) (hb : Binds X.K fd ps [])
    (hx : PassesAt (L2.CX X.prog X.w) X σ (E σ)) (I : Inv X pins σ H s) (r : Vals vs us) (h : sp vs H Q (E σ)) : wpAny (model X.prog X.w) X.A (call (.ref f) us) (EP X pins σ Q) X.xe s := by
  have hl : us.length = ps.length := by rw [← r.length]; exact F.len _ _ _ _ h
  have b := hb s us I.kIn (by rw [List.append_nil]; exact hl)
  rw [List.append_nil] at b
  refine wpAny_call (codeAny_mono (F.run X.A X.stack s H ⟨us, []⟩ us vs Q (E σ) hr I.env0 b r h) fun r s' hq => ?_)
  match r, hq with
  | .error e, hq => exact hx pins H s e s' I hq
  | .ok (.ret u), hq => exact I.after hq
  | .ok .next, hq => exact hq.elim
  | .ok .brk, hq => exact hq.elim
  | .ok .cont, hq => exact hq.elim
def mkF (n k : Nat) (body : MS) : MF := fun ds S => if ds.length = n then endF S.length (body (ds.map some ++ List.replicate k none) S) else .bad
def endK (n : Nat) (r : RF) : Res Vl := match r with
  | .ok (.rt (.c j)) S => if j < n then .bad else (match S[j]? with
    | some (.lst xs) => .ok (.c n) (S.take n ++ [.lst xs])
    | _ => .bad)
  | .ok (.xc _ c x) S => .exc c x (S.take n)
  | _ => .bad
def mkK (n k : Nat) (body : MS) : MF := fun ds S => if ds.length = n then endK S.length (body (ds.map some ++ List.replicate k none) S) else .bad
section
variable {K : PySem.W.Frag} {io io1 : Io} {F F1 H H1 : Hp} {S S1 : Sto} {Q : VK} {E : XK}
theorem ret_ok (hn : io.length = S.length) (nx : Nxt io F H io1 F1 H1) (st : Sta K io1 F1 S1 H1) {d : Vl} {v : V} (r : RepV K io1 F1 d v) (h : RG K (RepA K) (retV S.length d S1) io F H Q E) : Q v H1 := by
  cases d with
  | p x => exact h (io1.take S.length) F1 H1 v (nx.cut hn) (st.cut _) r
  | c j =>
    unfold retV at h
    dsimp only at h
    by_cases hj : j < S.length
    · rw [if_pos hj] at h
      exact h (io1.take S.length) F1 H1 v (nx.cut hn) (st.cut _) (r.cut fun i e => by cases e; exact hj)
    · rw [if_neg hj] at h
      obtain ⟨y, S2, F2, n2, s2, rp, hz, h2⟩ := st.frz r (RG.step nx h)
      rw [hz] at h
      exact h (io1.take S.length) F2 H1 v ((nx.trans n2).cut hn) (s2.cut _) rp
theorem keep_ok (hn : io.length = S.length) (nx : Nxt io F H io1 F1 H1) (st : Sta K io1 F1 S1 H1) {d : Vl} {v : V} (r : RepV K io1 F1 d v) (h : RG K (RepA K) (endK S.length (.ok (.rt d) S1)) io F H Q E) : Q v H1 := by
  cases d with
  | p x => exact h.elim
  | c j =>
    unfold endK at h
    dsimp only at h
    by_cases hj : j < S.length
    · rw [if_pos hj] at h; exact h.elim
    · rw [if_neg hj] at h
      split at h
      · rename_i xs hk
        obtain ⟨a, ha, rfl⟩ := r
        obtain ⟨b, vs, hb, hF, hH, hr⟩ := st.cel j _ hk
        rw [ha] at hb; cases hb
        have s2 := st.cut S.length
        have hl : (io1.take S.length).length = S.length := by
          rw [List.length_take]
          have : j < io1.length := (List.getElem?_eq_some_iff.mp ha).1
          omega
        have hl2 : (S1.take S.length).length = S.length := by rw [← s2.len]; exact hl
        have hp : ∀ k : Nat, (io1.take S.length)[k]? ≠ some (some a) := fun k e => by
          rw [List.getElem?_take] at e
          split at e
          · have := st.inj k j a e ha
            omega
          · cases e
        have hi : (io1.take S.length ++ [some a])[S.length]? = some (some a) := by
          rw [List.getElem?_append_right (by rw [hl]; exact Nat.le_refl _), hl]
          simp
        obtain ⟨s3, n3⟩ := s2.lay hp hF hH (c := .lst xs) ⟨a, vs, by rw [hl2]; exact hi, hF, hH, hr⟩
        refine h (io1.take S.length ++ [some a]) F1 H1 (.ref a) ?_ s3 ⟨a, hi, rfl⟩
        have nc := nx.cut hn
        refine ⟨fun k x e => n3 k x (nc.han k x e), nc.fr, nc.out, fun k x e => ?_, nc.stay, nc.nf⟩
        rw [List.getElem?_append] at e
        split at e
        · exact nc.new k x e
        · rename_i hk2
          have : k - (io1.take S.length).length = 0 := by
            have := (List.getElem?_eq_some_iff.mp e).1
            simp only [List.length_cons, List.length_nil] at this
            omega
          rw [this] at e
          have e : a = x := by simpa using e
          subst e
          rcases nx.new j a ha with z | z
          · have := (List.getElem?_eq_some_iff.mp z).1
            rw [hn] at this
            exact absurd this hj
          · exact .inr z
      · exact h.elim
end
section
variable {P : Program} {w : World} {K : PySem.W.Frag} {mg : Str → Option Value} {base : Heap} {x qual : Str} {params : Arguments} {body : List Stmt} {scope : Scope} {dvs : List V} {kws : List (Str × V)} {f : Addr} {fd : FuncData} {N ps : List Str} {k nl : Nat} {m : MS}
theorem spM_len {en : Nat → RF → Res Vl} {n k : Nat} {m : MS} {vs : List V} {H : Hp} {Q : VK} {E : XK} (h : spM K (fun ds S => if ds.length = n then en S.length (m (ds.map some ++ List.replicate k none) S) else .bad) vs H Q E) : vs.length = n := by
  obtain ⟨io, F, S, ds, st, r, h⟩ := h
  by_cases q : ds.length = n
  · rw [r.length, q]
  · dsimp only at h
    rw [if_neg q] at h
    exact h.elim
theorem fn_okC (F : FunD K x qual params body scope dvs kws f fd) (sc : FnScope N ps scope) (hN : N.length = ps.length + nl)
    (hb : ∀ (cdv : Value) (A : Around) (outer : List PySem.Env) (s : Shared) (H : Hp) (E : XK), fd.code = cdv → RoomG k (A.deeper (PyProof.Rows.envOfC qual scope s.heap.objs.size f cdv)) → OSs (cxOf (L2.CX P w) P w K mg base N qual scope f cdv A outer s H E) (fun c d _ H' => E c d H') body m) :
    FnG P w K mg base (k + 1) f fd ps (spM K (mkF ps.length nl m)) := by
  refine fnG_ofC F sc (fun vs H Q E h => spM_len h) fun cdv A outer s H vs Q E hcd hr h => ?_
  obtain ⟨t, pt, ht⟩ := hb cdv A outer s H E hcd hr
  refine ⟨t, pt, ?_⟩
  have hl := spM_len h
  obtain ⟨io, FF, S, ds, st, r, h⟩ := h
  have hd : ds.length = ps.length := by rw [← r.length]; exact hl
  unfold mkF at h
  rw [if_pos hd] at h
  have e0 := Env.start (K := K) (io := io) (F := FF) nl r
  have hst : L2.start N vs = vs.map some ++ List.replicate nl none := by
    unfold L2.start
    rw [hN, hl]
    congr 2
    omega
  rw [hst]
  refine ht _ S io FF _ H _ st e0 ?_
  show RS K (m (ds.map some ++ List.replicate nl none) S) io FF H { nx := fun _ H' => Q .non H', rt := Q } (fun c d _ H' => E c d H')
  cases q : m (ds.map some ++ List.replicate nl none) S with
  | bad => rw [q] at h; exact h.elim
  | ok fl S1 =>
    rw [q] at h
    cases fl with
    | nx ρ => exact fun io1 F1 H1 σ1 nx s1 en1 => h (io1.take S.length) F1 H1 .non (nx.cut st.len) (s1.cut _) rfl
    | rt d => exact fun io1 F1 H1 v nx s1 r1 => ret_ok st.len nx s1 r1 h
    | bk ρ => exact h.elim
    | ct ρ => exact h.elim
    | xc ρ c x => exact fun io1 F1 H1 d σ1 nx s1 en1 xr => h (io1.take S.length) F1 H1 d (nx.cut st.len) (s1.cut _) xr
theorem fn_ok (F : FunD K x qual params body scope dvs kws f fd) (sc : FnScope N ps scope) (hN : N.length = ps.length + nl)
    (hb : ∀ (cdv : Value) (A : Around) (outer : List PySem.Env) (s : Shared) (H : Hp) (E : XK), RoomG k (A.deeper (PyProof.Rows.envOfC qual scope s.heap.objs.size f cdv)) → OSs (cxOf (L2.CX P w) P w K mg base N qual scope f cdv A outer s H E) (fun c d _ H' => E c d H') body m) :
    FnG P w K mg base (k + 1) f fd ps (spM K (mkF ps.length nl m)) := fn_okC F sc hN fun cdv A outer s H E _ => hb cdv A outer s H E
theorem fn_okK (F : FunD K x qual params body scope dvs kws f fd) (sc : FnScope N ps scope) (hN : N.length = ps.length + nl)
    (hb : ∀ (cdv : Value) (A : Around) (outer : List PySem.Env) (s : Shared) (H : Hp) (E : XK), RoomG k (A.deeper (PyProof.Rows.envOfC qual scope s.heap.objs.size f cdv)) → OSs (cxOf (L2.CX P w) P w K mg base N qual scope f cdv A outer s H E) (fun c d _ H' => E c d H') body m) :
    FnG P w K mg base (k + 1) f fd ps (spM K (mkK ps.length nl m)) := by
  refine fnG_of F sc (fun vs H Q E h => spM_len h) fun cdv A outer s H vs Q E hr h => ?_
  obtain ⟨t, pt, ht⟩ := hb cdv A outer s H E hr
  refine ⟨t, pt, ?_⟩
  have hl := spM_len h
  obtain ⟨io, FF, S, ds, st, r, h⟩ := h
  have hd : ds.length = ps.length := by rw [← r.length]; exact hl
  unfold mkK at h
  rw [if_pos hd] at h
  have e0 := Env.start (K := K) (io := io) (F := FF) nl r
  have hst : L2.start N vs = vs.map some ++ List.replicate nl none := by
    unfold L2.start
    rw [hN, hl]
    congr 2
    omega
  rw [hst]
  refine ht _ S io FF _ H _ st e0 ?_
  show RS K (m (ds.map some ++ List.replicate nl none) S) io FF H { nx := fun _ H' => Q .non H', rt := Q } (fun c d _ H' => E c d H')
  cases q : m (ds.map some ++ List.replicate nl none) S with
  | bad => rw [q] at h; exact h.elim
  | ok fl S1 =>
    rw [q] at h
    cases fl with
    | nx ρ => exact h.elim
    | rt d => exact fun io1 F1 H1 v nx s1 r1 => keep_ok st.len nx s1 r1 h
    | bk ρ => exact h.elim
    | ct ρ => exact h.elim
    | xc ρ c x => exact fun io1 F1 H1 d σ1 nx s1 en1 xr => h (io1.take S.length) F1 H1 d (nx.cut st.len) (s1.cut _) xr
end
def HasPar (fd : FuncData) (params : Arguments) : Prop := ∃ (x qual : Str) (body : List Stmt) (scope : Scope) (kV doc pm : Value) (an : Option Addr) (cdv ct : Value), fd = PySem.W.fnOf x qual params body scope .none kV doc pm an cdv ct
def fdAt (K : PySem.W.Frag) (a : Addr) : Option FuncData := match K.lookup a with
  | some ⟨_, _, .func fd, _⟩ => some fd
  | _ => none
structure GF (P : Program) (w : World) (K : PySem.W.Frag) (mg : Str → Option Value) (base : Heap) (x : Str) (params : Arguments) (ps : List Str) (k : Nat) (m : MF) : Prop where
  gl : mg x = some (.ref (He.ga K x))
  kp : PySem.W.keepIn K (.ref (He.ga K x)) = true
  fn : ∃ fd, FnG P w K mg base k (He.ga K x) fd ps (spM K m) ∧ Binds K fd ps [] ∧ HasPar fd params ∧ fdAt K (He.ga K x) = some fd
theorem FunD.hasPar {K : PySem.W.Frag} {x qual : Str} {params : Arguments} {body : List Stmt} {scope : Scope} {kws : List (Str × V)} {f : Addr} {fd : FuncData} (F : FunD K x qual params body scope [] kws f fd) : HasPar fd params := by
  obtain ⟨oc, od, dV, kV, doc, pm, an, cdv, ct, osl, e, _, _, hd, _⟩ := F.ex
  rcases hd with ⟨_, rfl⟩ | ⟨z, _⟩
  · exact ⟨x, qual, body, scope, kV, doc, pm, an, cdv, ct, e⟩
  · exact absurd rfl z
theorem FunD.at_ {K : PySem.W.Frag} {x qual : Str} {params : Arguments} {body : List Stmt} {scope : Scope} {dvs : List V} {kws : List (Str × V)} {f : Addr} {fd : FuncData} (F : FunD K x qual params body scope dvs kws f fd) : fdAt K f = some fd := by
  obtain ⟨oc, od, dV, kV, doc, pm, an, cdv, ct, osl, e, lk, _⟩ := F.ex
  unfold fdAt
  rw [lk]
theorem takes0 {X : Cx} : Takes X W0 := fun u s' ⟨_, _, _, _, _, _, _, _, _, _, _, _, _, _, _, _, h⟩ => h.elim
def eFn (m : MF) (a : MA) : ME := fun ρ S => (a ρ S).bind m
section
variable {X : Cx} {W : WX} {e o : Expr} {es : List Expr} {mas : MA} {mo : ME} {x : Str} {p pos apos : Pos} {params : Arguments} {ps : List Str} {k j : Nat} {m : MF}
theorem oe_fn (G : GF X.prog X.w X.K X.mg X.base x params ps k m) (hr : RoomG j X.A) (hk : k ≤ j) (tk : Takes X W) (ha : OA X W (e :: es) mas) (hg : Gl X x := by rfl)
    (hdb : (x == ("__debug__" : Str)) = false := by decide) (he : starEach (e :: es) X.env = (false, eval e X.env) :: starEach es X.env := by rfl) (hpl : (backTo pos (starEach es X.env)).any (·.1) = false := by rfl) :
    OE X W (.Call (.Name x p) (e :: es) [] pos) (eFn m mas) := by
  obtain ⟨fd, F, hb, _⟩ := G.fn
  obtain ⟨t, q, ha⟩ := ha
  refine ⟨fun σ H Q => t σ H fun vs H1 => spM X.K m vs H1 Q (WE W σ), ⟨fun pins s σ H Q I h => ?_⟩, fun ρ S io F σ H Q st en h => ?_⟩
  · refine wpAny_Call_Name_kw (ld_glob I hg G.gl ?_ hdb)
    refine PySem.W.callWith_K (h₀ := X.base) I.ok.mod.kin G.kp (thn (q.run pos pins s σ H _ I h) fun us s1 ⟨vs, H1, I1, r, qq⟩ => ⟨I1.kIn, ?_⟩) he hpl
    exact run_fnG (E := WE W) F (hr.mono hk) hb (passAt tk σ) I1 r qq
  refine ha ρ S io F σ H _ st en (RG.bind h fun ds S1 io1 F1 H1 vs e1 n1 s1 r1 h1 => ?_)
  exact ⟨io1, F1, S1, ds, s1, r1, h1⟩
end
def KwTo (params : Arguments) (ps ks : List Str) (n : Nat) (pm : List Nat) : Prop := ∀ (x qual : Str) (body : List Stmt) (scope : Scope) (kV doc pmv : Value) (an : Option Addr) (cdv ct : Value) (us ws : List Value), us.length = n → ws.length = ks.length →
  bindArgs (PySem.W.fnOf x qual params body scope .none kV doc pmv an cdv ct) ⟨us, ks.zip ws⟩ = pure (ps.zip (permL .none pm (us ++ ws)))
theorem vals_perm {vs : List V} {us : List Value} (h : Vals vs us) : ∀ pm : List Nat, (∀ i ∈ pm, i < vs.length) → Vals (permL .non pm vs) (permL .none pm us)
  | [], _ => .nil
  | i :: pm, hi => by
    have hl := h.length
    have h0 := hi i List.mem_cons_self
    obtain ⟨u, hu, ru⟩ := h.get (show vs[i]? = some vs[i] by simp [h0])
    refine Paired.cons ?_ (vals_perm h pm fun j hj => hi j (List.mem_cons_of_mem _ hj))
    show RelV (vs.getD i .non) (us.getD i .none)
    rw [List.getD_eq_getElem?_getD, List.getD_eq_getElem?_getD, hu]
    simpa [h0] using ru
def OK_ (X : Cx) (W : WX) (kws : List Keyword) (m : MA) : Prop := ∃ t, PK X kws t ∧ ∀ (ρ : En) (S : Sto) (io : Io) (F : Hp) (σ : St) (H : Hp) (Q : List V → Hp → Prop), Sta X.K io F S H → Mir.Env X.K io F ρ σ →
  RG X.K (RepAs X.K) (m ρ S) io F H Q (fun c d H' => W c d σ H') → t σ H Q
section
variable {X : Cx} {W : WX} {e o : Expr} {es : List Expr} {mas mks : MA} {me mo : ME} {x : Str} {p pos apos kpos : Pos} {params : Arguments} {ps ks : List Str} {k j n : Nat} {m : MF} {kws : List Keyword} {nm : Option Str} {pm : List Nat}
theorem ok_nil : OK_ X W [] aNil := ⟨_, pk_nil, fun ρ S io F σ H Q st en h => RG.val (R := RepAs X.K) (d := []) (v := []) st rfl h⟩
theorem ok_cons (ha : OE X W e me) (hr : OK_ X W kws mas) : OK_ X W (⟨nm, e, kpos⟩ :: kws) (aCons me mas) := by
  obtain ⟨t, p, ha⟩ := ha
  obtain ⟨u, q, hr⟩ := hr
  refine ⟨_, pk_cons p q, fun ρ S io F σ H Q st en h => ?_⟩
  refine ha ρ S io F σ H _ st en (RG.bind h fun d S1 io1 F1 H1 v e1 n1 s1 r1 h1 => ?_)
  refine hr ρ S1 io1 F1 σ H1 _ s1 (en.nxt n1) (RG.bind h1 fun d2 S2 io2 F2 H2 v2 e2 n2 s2 r2 h2 => ?_)
  exact RG.val (R := RepAs X.K) (d := d :: d2) s2 ⟨v, v2, rfl, r1.mono n2.han n2.fr, r2⟩ h2
def eFnK (m : MF) (n : Nat) (kl : Nat) (pm : List Nat) (a b : MA) : ME := fun ρ S => (a ρ S).bind fun ds S1 => (b ρ S1).bind fun zs S2 => if ds.length = n ∧ zs.length = kl then m (permL (.p .non) pm (ds ++ zs)) S2 else .bad
end
end Mir

namespace Mir
open PySem L2
def fldOf {A : Type} (f : Str) : List Str → List A → Option A
  | n :: ns, x :: xs => if f = n then some x else fldOf f ns xs
  | _, _ => none
def putN (f : Str) : List Str → List Str
  | [] => [f]
  | n :: ns => if n = f then n :: ns else n :: putN f ns
def putX {A : Type} (f : Str) (a : A) : List Str → List A → List A
  | n :: ns, x :: xs => if n = f then a :: xs else x :: putX f a ns xs
  | _, _ => [a]
section
variable {K : PySem.W.Frag} {io : Io} {F : Hp} {S : Sto} {H : Hp}
theorem lookup_cons' {B : Type} {f k : Str} {v : B} {r : List (Str × B)} : ((k, v) :: r).lookup f = if f = k then some v else r.lookup f := by
  show (match f == k with | true => some v | false => r.lookup f) = _
  by_cases h : f = k
  · subst h; rw [if_pos rfl, beq_self_eq_true]
  · rw [if_neg h, beq_eq_false_iff_ne.mpr h]
theorem fld_none : ∀ {ns : List Str} {gs : List (Str × V)} {f : Str}, gs.map (·.1) = ns → f ∉ ns → gs.lookup f = none
  | [], [], f, h1, e => rfl
  | [], _ :: _, f, h1, e => by cases h1
  | n :: ns, [], f, h1, e => by cases h1
  | n :: ns, (k, u) :: gs, f, h1, e => by
    cases h1
    rw [lookup_cons', if_neg (fun z => e (by rw [z]; exact List.mem_cons_self))]
    exact fld_none rfl fun z => e (List.mem_cons_of_mem _ z)
theorem put_names : ∀ (gs : List (Str × V)) (f : Str) (v : V), (putF f v gs).map (·.1) = putN f (gs.map (·.1))
  | [], f, v => rfl
  | (k, u) :: gs, f, v => by
    show (if k = f then (k, v) :: gs else (k, u) :: putF f v gs).map (·.1) = if k = f then k :: gs.map (·.1) else k :: putN f (gs.map (·.1))
    by_cases q : k = f
    · rw [if_pos q, if_pos q]; rfl
    · rw [if_neg q, if_neg q]
      show k :: (putF f v gs).map (·.1) = _
      rw [put_names gs f v]
theorem put_vals {d : Vl} {v : V} (hd : RepV K io F d v) {f : Str} : ∀ {gs : List (Str × V)} {xs : List Vl}, RepVs K io F xs (gs.map (·.2)) → RepVs K io F (putX f d (gs.map (·.1)) xs) ((putF f v gs).map (·.2))
  | [], xs, h => by
    cases xs with
    | nil => exact ⟨v, [], rfl, hd, rfl⟩
    | cons x xs => obtain ⟨_, _, e, _⟩ := h; cases e
  | (k, u) :: gs, [], h => by cases h
  | (k, u) :: gs, x :: xs, ⟨w, r, e1, r1, r2⟩ => by
    cases e1
    show RepVs K io F (if k = f then d :: xs else x :: putX f d (gs.map (·.1)) xs) ((if k = f then (k, v) :: gs else (k, u) :: putF f v gs).map (·.2))
    by_cases q : k = f
    · rw [if_pos q, if_pos q]; exact ⟨v, _, rfl, hd, r2⟩
    · rw [if_neg q, if_neg q]; exact ⟨u, _, rfl, r1, put_vals hd r2⟩
theorem put_mem {d : Vl} {f : Str} {j : Nat} : ∀ {ns : List Str} {xs : List Vl}, Vl.c j ∈ putX f d ns xs → Vl.c j ∈ xs ∨ d = .c j
  | [], xs, h => by
    have h : Vl.c j ∈ [d] := by cases xs <;> exact h
    exact .inr (List.mem_singleton.mp h).symm
  | n :: ns, [], h => .inr (List.mem_singleton.mp h).symm
  | n :: ns, x :: xs, h => by
    have h : Vl.c j ∈ if n = f then d :: xs else x :: putX f d ns xs := h
    by_cases q : n = f
    · rw [if_pos q] at h
      rcases List.mem_cons.mp h with z | z
      · exact .inr z.symm
      · exact .inl (List.mem_cons_of_mem _ z)
    · rw [if_neg q] at h
      rcases List.mem_cons.mp h with z | z
      · exact .inl (by rw [z]; exact List.mem_cons_self)
      · rcases put_mem z with y | y
        · exact .inl (List.mem_cons_of_mem _ y)
        · exact .inr y
end
def fldV (c f : Str) (d : Vl) (S : Sto) : Res Vl := match d with
  | .p (.obj c' ns xs) => if c' = c then (match fldOf f ns xs with
    | some x => .ok (.p x) S
    | none => .bad) else .bad
  | .c k => (match S[k]? with
    | some (.ins c' ns xs) => if c' = c then (match fldOf f ns xs with
      | some x => .ok x S
      | none => .bad) else .bad
    | _ => .bad)
  | _ => .bad
def eFld (c f : Str) (mo : ME) : ME := fun ρ S => (mo ρ S).bind fun d S1 => fldV c f (nv S1 d) S1
section
variable {X : Cx} {W : WX} {a b e o : Expr} {ma mb mo : ME} {pos apos : Pos} {c f : Str}
def putC (c f : Str) (k : Nat) (d : Vl) (S : Sto) : Res Unit := match S[k]? with
  | some (.ins c' ns xs) => if c' = c ∧ ns.length < 1000 then .ok () (S.set k (.ins c' (putN f ns) (putX f d ns xs))) else .bad
  | _ => .bad
def fSet (c f : Str) (o v : Vl) (S : Sto) : Res Unit := match o with
  | .c k => (match v with
    | .p x => putC c f k (.p x) S
    | .c j => if j < k then putC c f k (.c j) S else (frz (.c j) S).bind fun x S1 => putC c f k (.p x) S1)
  | _ => .bad
def gFldM (c f : Str) (o : ME) : MG := fun d ρ S => (o ρ S).nox.bind fun a S1 => (fSet c f a d S1).bind fun _ S2 => .ok ρ S2
theorem Sta.putC {K : PySem.W.Frag} {io : Io} {F : Hp} {S : Sto} {H : Hp} {k : Nat} {a : Addr} {d : Vl} {v : V} {C D : Type} {R' : Io → Hp → C → D → Prop} {g : Unit → Sto → Res C} {Q : D → Hp → Prop} {E : XK} (st : Sta K io F S H) (ha : io[k]? = some (some a)) (rv : RepV K io F d v) (hj : ∀ j, d = .c j → j < k)
    (h : RG K R' ((Mir.putC c f k d S).bind g) io F H Q E) : ∃ dx fs, H a = some (.ins (He.ga K c) dx fs) ∧ fs.length < 1000 ∧ ∃ S', Nxt io F H io F (upd H a (.ins (He.ga K c) dx (putF f v fs))) ∧ Sta K io F S' (upd H a (.ins (He.ga K c) dx (putF f v fs))) ∧ RG K R' (g () S') io F (upd H a (.ins (He.ga K c) dx (putF f v fs))) Q E := by
  unfold Mir.putC at h
  cases hk : S[k]? with
  | none => rw [hk] at h; exact h.elim
  | some cc =>
    rw [hk] at h
    cases cc with
    | ins c' ns xs =>
      dsimp only at h
      by_cases q : c' = c ∧ ns.length < 1000
      · rw [if_pos q] at h
        obtain ⟨rfl, hl⟩ := q
        obtain ⟨b, dx, gs, hb, hF, hH, hg, hr, hlt⟩ := st.cel k _ hk
        rw [ha] at hb; cases hb
        subst hg
        rw [List.length_map] at hl
        obtain ⟨s2, n2⟩ := st.write (o := .ins (He.ga K c') dx (putF f v gs)) (c := .ins c' (putN f (gs.map (·.1))) (putX f d (gs.map (·.1)) xs)) ha hF ⟨a, dx, putF f v gs, ha, hF, upd_same, put_names gs f v, put_vals rv hr, fun j hm => by
          rcases put_mem hm with z | z
          · exact hlt j z
          · exact hj j z⟩
        exact ⟨dx, gs, hH, hl, _, n2, s2, RG.step n2 h⟩
      · rw [if_neg q] at h; exact h.elim
    | _ => exact h.elim
theorem Sta.fSet {K : PySem.W.Frag} {io : Io} {F : Hp} {S : Sto} {H : Hp} {o d : Vl} {vo v : V} {C D : Type} {R' : Io → Hp → C → D → Prop} {g : Unit → Sto → Res C} {Q : D → Hp → Prop} {E : XK} (st : Sta K io F S H) (ro : RepV K io F o vo) (rv : RepV K io F d v)
    (h : RG K R' ((Mir.fSet c f o d S).bind g) io F H Q E) : ∃ a dx fs, vo = .ref a ∧ H a = some (.ins (He.ga K c) dx fs) ∧ fs.length < 1000 ∧ ∃ S' F', Nxt io F H io F' (upd H a (.ins (He.ga K c) dx (putF f v fs))) ∧ Sta K io F' S' (upd H a (.ins (He.ga K c) dx (putF f v fs))) ∧ RG K R' (g () S') io F' (upd H a (.ins (He.ga K c) dx (putF f v fs))) Q E := by
  cases o with
  | p x => exact h.elim
  | c k =>
    obtain ⟨a, ha, rfl⟩ := ro
    unfold Mir.fSet at h
    dsimp only at h
    cases d with
    | p x =>
      obtain ⟨dx, fs, h1, h2, S', n2, s2, h3⟩ := st.putC ha rv (fun j z => nomatch z) h
      exact ⟨a, dx, fs, rfl, h1, h2, S', F, n2, s2, h3⟩
    | c j =>
      dsimp only at h
      by_cases q : j < k
      · rw [if_pos q] at h
        obtain ⟨dx, fs, h1, h2, S', n2, s2, h3⟩ := st.putC ha rv (fun i z => by cases z; exact q) h
        exact ⟨a, dx, fs, rfl, h1, h2, S', F, n2, s2, h3⟩
      · rw [if_neg q] at h
        have e : ((Mir.frz (.c j) S).bind fun x S1 => Mir.putC c f k (.p x) S1).bind g = (Mir.frz (.c j) S).bind fun x S1 => (Mir.putC c f k (.p x) S1).bind g := by cases Mir.frz (.c j) S <;> rfl
        rw [e] at h
        obtain ⟨x, S1, F1, n1, s1, rp, hz, h1⟩ := st.frz rv h
        obtain ⟨dx, fs, h1, h2, S', n2, s2, h3⟩ := s1.putC (d := .p x) ha rp (fun j z => nomatch z) h1
        exact ⟨a, dx, fs, rfl, h1, h2, S', F1, n1.trans n2, s2, h3⟩
end
def endO (kp : Bool) (n : Nat) (r : Res Vl) : Res Vl := match r with
  | .ok (.p .non) S => (match kp with
    | true => .ok (.c n) S
    | false => (frz (.c n) S).bind fun y S1 => .ok (.p y) (S1.take n))
  | .exc c x S => .exc c x (S.take n)
  | _ => .bad
def mkO (kp : Bool) (c : Str) (m : MF) (ds : List Vl) (S : Sto) : Res Vl := endO kp S.length (m (.c S.length :: ds) (S ++ [.ins c [] []]))
section
variable {K : PySem.W.Frag} {io : Io} {F : Hp} {S : Sto} {H : Hp}
theorem Nxt.side {p : Addr} {o : HO} (hp : H p = none) : Nxt io F H io F (upd H p o) := by
  refine ⟨fun _ _ z => z, fun _ _ z => z, fun a o z _ => ?_, fun _ _ z => .inl z, fun a z => ?_, fun _ z => .inl z⟩
  · rw [upd_ne (ne_of_none z hp)]; exact z
  · by_cases q : a = p
    · subst q; exact hp
    · rw [upd_ne q] at z; exact z
end
def eMake (kp : Bool) (c : Str) (m : MF) (a : MA) : ME := fun ρ S => (a ρ S).bind fun ds S1 => mkO kp c m ds S1
section
variable {X : Cx} {W : WX} {e o : Expr} {es : List Expr} {mas mks : MA} {me mo : ME} {x f : Str} {p pos apos kpos : Pos} {params : Arguments} {ps ks : List Str} {k j n : Nat} {m : MF} {kws : List Keyword} {pm : List Nat} {kp : Bool}
def isO (c f : Str) (S : Sto) : Vl → Bool
  | .p (.obj c' ns _) => decide (c' = c) && decide (f ∉ ns)
  | .c k => (match S[k]? with
    | some (.ins c' ns _) => decide (c' = c) && decide (f ∉ ns)
    | _ => false)
  | _ => false
theorem Sta.isO {K : PySem.W.Frag} {io : Io} {F : Hp} {S : Sto} {H : Hp} {c f : Str} {d : Vl} {v : V} (st : Sta K io F S H) (r : RepV K io F d v) (h : Mir.isO c f S d = true) : ∃ a dx fs, v = .ref a ∧ H a = some (.ins (He.ga K c) dx fs) ∧ fs.lookup f = none := by
  cases d with
  | p x =>
    cases x with
    | obj c' ns xs =>
      have h : (decide (c' = c) && decide (f ∉ ns)) = true := h
      rw [Bool.and_eq_true, decide_eq_true_eq, decide_eq_true_eq] at h
      obtain ⟨rfl, hf⟩ := h
      obtain ⟨a, dx, gs, rfl, ha, hg, hr⟩ := r
      exact ⟨a, dx, gs, rfl, st.sub _ _ ha, fld_none hg hf⟩
    | _ => cases h
  | c k =>
    unfold Mir.isO at h
    dsimp only at h
    split at h
    · rename_i c' ns xs hk
      rw [Bool.and_eq_true, decide_eq_true_eq, decide_eq_true_eq] at h
      obtain ⟨rfl, hf⟩ := h
      obtain ⟨a, ha, rfl⟩ := r
      obtain ⟨b, dx, gs, hb, hF, hH, hg, hr, _⟩ := st.cel k _ hk
      rw [ha] at hb; cases hb
      exact ⟨a, dx, gs, rfl, hH, fld_none hg hf⟩
    · cases h
def eMeth (c f : Str) (m : MF) (o : ME) (a : MA) : ME := fun ρ S => (o ρ S).bind fun d S1 => if isO c f S1 (nv S1 d) then (a ρ S1).bind fun ds S2 => m (d :: ds) S2 else .bad
def eMethK (c f : Str) (m : MF) (n kl : Nat) (pm : List Nat) (o : ME) (a b : MA) : ME := fun ρ S => (o ρ S).bind fun d S1 => if isO c f S1 (nv S1 d) then (a ρ S1).bind fun ds S2 => (b ρ S2).bind fun zs S3 => if ds.length = n ∧ zs.length = kl then m (permL (.p .non) pm (d :: ds ++ zs)) S3 else .bad else .bad
def isC (c : Str) (S : Sto) : Vl → Bool
  | .p (.obj c' _ _) => decide (c' = c)
  | .c k => (match S[k]? with
    | some (.ins c' _ _) => decide (c' = c)
    | _ => false)
  | _ => false
theorem Sta.isC {K : PySem.W.Frag} {io : Io} {F : Hp} {S : Sto} {H : Hp} {c : Str} {d : Vl} {v : V} (st : Sta K io F S H) (r : RepV K io F d v) (h : Mir.isC c S d = true) : ∃ a dx fs, v = .ref a ∧ H a = some (.ins (He.ga K c) dx fs) := by
  cases d with
  | p x =>
    cases x with
    | obj c' ns xs =>
      have h : decide (c' = c) = true := h
      rw [decide_eq_true_eq] at h
      subst h
      obtain ⟨a, dx, gs, rfl, ha, hg, hr⟩ := r
      exact ⟨a, dx, gs, rfl, st.sub _ _ ha⟩
    | _ => cases h
  | c k =>
    unfold Mir.isC at h
    dsimp only at h
    split at h
    · rename_i c' ns xs hk
      rw [decide_eq_true_eq] at h
      subst h
      obtain ⟨a, ha, rfl⟩ := r
      obtain ⟨b, dx, gs, hb, hF, hH, hg, hr, _⟩ := st.cel k _ hk
      rw [ha] at hb; cases hb
      exact ⟨a, dx, gs, rfl, hH⟩
    · cases h
def eProp (c : Str) (m : MF) (o : ME) : ME := fun ρ S => (o ρ S).bind fun d S1 => if isC c S1 (nv S1 d) then (m [d] S1).nox else .bad
end
end Mir

namespace Mir
open PySem L2
theorem repl_ints {K : PySem.W.Frag} {F : Hp} : ∀ ns : List Int, RepL K F (ns.map P.int) (ns.map V.int)
  | [] => .nil
  | _ :: ns => .cons rfl (repl_ints ns)
theorem law_callG {Pr : Program} {w : World} {K : PySem.W.Frag} {mg mb : Str → Option Value} {k : Nat} {fa a : Addr} {fd : FuncData} {x : Str} {m : MF} {s₁ : Shared} {vs : List Value} {ns : List Int} {S' : Sto}
    (KX : K.In s₁.heap) (hns : s₁.heap.Ns mainGlobals mg) (hb : s₁.heap.Ns builtinsNs mb) (hbb : ∀ x : Str, x ≠ "__name__" → mb x = bootBuiltins x) (hlim : s₁.heap.NoLimit) (hg : s₁.gens = #[])
    (ha : s₁.heap.get? a = some { cls := .type "list", data := .seq vs.toArray }) (hi : PyProof.Rows.IntsAre vs ns) (hl : ns.length ≤ sizeLine) (hr : RoomG k callerA)
    (F : ∀ base : Heap, K.In base → base.Ns mainGlobals mg → FnG Pr w K mg base k fa fd [x] (spM K m)) (hbind : ∀ (s : Shared) (u : Value), BindsTo s fd ⟨[u], []⟩ [(x, u)])
    (hm : m [.p (.scr (ns.map P.int))] [] = .ok (.p (.bl true)) S') :
    codeAny (model Pr w) callerA (.call (.ref fa) ⟨[.ref a], []⟩) (fun r s' => r = .ok (.ret (.bool true)) ∧ OldK s₁.heap s'.heap ∧ s'.os = s₁.os ∧ PyProof.Rows.AllBare s'.gens) s₁ := by
  have rv := vals_ints hi
  have lenV := hi.length
  have go : ∀ H : Hp, Only H → SqL K H a (ns.map V.int) → HOk Pr w H s₁.heap → (∀ b, H b ≠ none → b = a) → (H a ≠ none → K.lookup a = none) →
      codeAny (model Pr w) callerA (.call (.ref fa) ⟨[.ref a], []⟩) (fun r s' => r = .ok (.ret (.bool true)) ∧ OldK s₁.heap s'.heap ∧ s'.os = s₁.os ∧ PyProof.Rows.AllBare s'.gens) s₁ := by
    intro H hO hS hok hA hK
    have off : ∀ {b : Addr} {o : Obj}, s₁.heap.get? b = some o → (b = a → H b = none) → (hidT s₁.heap H).get? b = some o := fun {b o} e n => hidT_get e (by
      cases q : H b with
      | none => rfl
      | some u =>
        have z := n (hA b (by rw [q]; simp))
        rw [q] at z; cases z)
    have nsK : ∀ {b : Addr} {mm : Str → Option Value}, s₁.heap.Ns b mm → (hidT s₁.heap H).Ns b mm := fun {b mm} ⟨o, es, ep, e, d, r⟩ => ⟨o, es, ep, off e (fun z => by
      subst z
      rw [ha] at e; cases e
      exact nomatch (show Data.seq vs.toArray _ = Data.dict es ep from d)), d, r⟩
    have hKb : K.In (hidT s₁.heap H) := fun b o e => off (KX b o e) (fun z => by
      subst z
      cases q : H b with
      | none => rfl
      | some u => rw [hK (by rw [q]; simp)] at e; cases e)
    have e0 : Env0 Pr w K mg (hidT s₁.heap H) callerA [] s₁ H := ⟨rfl, ⟨hKb, nsK hns, ⟨mb, nsK hb, hbb⟩, let ⟨mc, h1, h2⟩ := hlim; ⟨mc, nsK h1, h2⟩⟩, fun b o e => of_hidT e, Nat.le_of_eq (hidT_size _ _), trivial, fun b hb => absurd (show b ∈ ([] : List Addr) from hb) (by simp), hok, .of_eq hg⟩
    have st : Sta K [] H [] H := ⟨rfl, fun j k a h => by simp at h, Same.refl _, fun k a h => by simp at h, fun k c h => by simp at h⟩
    have sp : spM K m [.ref a] H (fun v _ => v = .bl true) (fun _ _ _ => False) := by
      refine ⟨[], H, [], [.p (.scr (ns.map P.int))], st, ⟨_, [], rfl, ⟨a, ns.map V.int, rfl, hS, repl_ints ns⟩, rfl⟩, ?_⟩
      rw [hm]
      exact fun io' F' H' v _ _ r => r
    refine codeAny_mono ((F _ hKb (nsK hns)).run callerA [] s₁ H ⟨[.ref a], []⟩ [.ref a] [.ref a] _ _ hr e0 (hbind s₁ (.ref a)) (.cons rfl .nil) sp) fun r s' h => ?_
    match r, h with
    | .error e, ⟨_, _, _, _, _, _, _, _, _, _, _, _, z⟩ => exact z.elim
    | .ok .next, h => exact h.elim
    | .ok .brk, h => exact h.elim
    | .ok .cont, h => exact h.elim
    | .ok (.ret u), ⟨v, H', os, bare, un, hok', r', q⟩ =>
      have q : v = .bl true := q
      subst q
      obtain rfl : u = Value.bool true := r'
      refine ⟨rfl, OldK.of_keep fun b o e => ?_, os, bare⟩
      cases q : H b with
      | none => exact un.keep b o e q (by intro z; exact absurd (show b ∈ ([] : List Addr) from z) (by simp)) (by simp)
      | some u =>
        rcases hO b with z | ⟨ob, xs, z⟩
        · rw [q] at z; cases z
        · obtain ⟨e1, _⟩ := hok b _ z
          obtain ⟨e2, _⟩ := hok' b _ (un.frzs b ob _ z)
          rw [e] at e1; cases e1
          exact e2
  cases hk : K.lookup a with
  | some o =>
    have e := KX a o hk
    rw [ha] at e
    cases e
    exact go (fun _ => none) (fun _ => .inl rfl) (.inr ⟨_, vs.toArray, _, hk, rfl, rfl, rfl, by rw [List.size_toArray, lenV]; exact hl, by simpa using rv⟩) (fun b u z => nomatch (show (none : Option HO) = some u from z)) (fun b z => absurd rfl z) fun z => absurd rfl z
  | none =>
    obtain ⟨H0, hH0⟩ : ∃ H0 : Hp, H0 = fun b => if b = a then some (HO.frz { cls := .type "list", data := .seq vs.toArray } (.lst (ns.map V.int))) else none := ⟨_, rfl⟩
    have at1 : H0 a = some (HO.frz { cls := .type "list", data := .seq vs.toArray } (.lst (ns.map V.int))) := by rw [hH0]; exact if_pos rfl
    have at2 : ∀ b, b ≠ a → H0 b = none := fun b hb => by rw [hH0]; exact if_neg hb
    refine go H0 (fun b => ?_) (.inl (.inr ⟨_, at1⟩)) (fun b u z => ?_) (fun b z => ?_) fun _ => hk
    · by_cases hb : b = a
      · subst hb; exact .inr ⟨_, _, at1⟩
      · exact .inl (at2 b hb)
    · by_cases hb : b = a
      · subst hb
        rw [at1] at z
        cases z
        exact ⟨ha, by rw [List.length_map]; exact hl, vs, _, rv, ha⟩
      · rw [at2 b hb] at z; cases z
    · by_cases hb : b = a
      · exact hb
      · exact absurd (at2 b hb) z
theorem walkG {l : PySem.W.OpenLaw} {n k : Nat} {q : Program} {loose : List Str} {XP : (Str → Option Value) → Heap → Prop} {YP : World → Heap → Prop} {d : DefRec} {x : Str} {m : MF}
    (hn : l.most = some n) (hn2 : n ≤ sizeLine) (hdf : d.params.defaults = []) (hr : RoomG k callerA)
    (F : ∀ (w : World) (mg : Str → Option Value) (fa : Addr) (h : Heap), YP w h → h.Ns mainGlobals mg → mg d.name = some (.ref fa) →
      ∃ (K : PySem.W.Frag) (fd : FuncData), K.In h ∧ (∀ (s : Shared) (u : Value), BindsTo s fd ⟨[u], []⟩ [(x, u)]) ∧ ∀ base : Heap, K.In base → base.Ns mainGlobals mg → FnG l.prog w K mg base k fa fd [x] (spM K m))
    (hm : ∀ ns : List Int, ns.length ≤ n → ∃ S', m [.p (.scr (ns.map P.int))] [] = .ok (.p (.bl true)) S') :
    PySem.W.WalkO q loose XP YP l.row.toRowW d [] (fun f vs => PySem.call f vs) := by
  refine Att.attach_call hn hdf fun w s₀ s₁ mg mb fa o pm cd doc a vs ns G Y ho hd hcd hmg hobj hints hlen hg => ?_
  obtain ⟨K, fd, KX, hb, hF⟩ := F w mg fa _ Y G.T.g hmg
  obtain ⟨S', e⟩ := hm ns hlen
  exact law_callG KX G.T.g G.T.b G.T.builtins G.T.nolimit hg hobj hints (Nat.le_trans hlen hn2) hr hF hb e
theorem DefM.funD {K : PySem.W.Frag} {d : DefM} (e : fnM K (d.ad K) = d.val) (c : d.ok K = true) : ∃ fd, FunD K d.name d.qual d.params d.body d.scope [] [] (d.ad K) fd := by
  unfold DefM.ok at c
  rw [Bool.and_eq_true] at c
  obtain ⟨hk, c⟩ := c
  unfold fnM at e
  cases q : K.lookup (d.ad K) with
  | none => rw [q] at c; cases c
  | some o =>
    obtain ⟨oc, od, dt, osl⟩ := o
    rw [q] at c e
    cases dt with
    | func fd =>
      obtain ⟨n1, n2, n3, n4, n5, n6, n7, n8, n9, n10, n11, n12, n13, n14, n15⟩ := fd
      have e2 : (some (n1, n2, n3, n4, n5, n6, n7, n15) : He.FnW) = some (d.name, d.qual, d.params, .stmts d.body, d.scope, mainGlobals, [], builtinsNs) := e
      simp only [Option.some.injEq, Prod.mk.injEq] at e2
      obtain ⟨h1, h2, h3, h4, h5, h6, h7, h9⟩ := e2
      subst h1 h2 h3 h4 h5 h6 h7 h9
      dsimp only at c
      rw [Bool.and_eq_true] at c
      exact ⟨_, ⟨oc, od, _, _, _, _, _, _, _, osl, rfl, q, c.1, He.dflB_ok c.2, .inl rfl⟩, hk⟩
    | _ => cases c
theorem obsMG_eq {n : Nat} {ck : PySem.W.Frag → Bool} {fn : List DefM} {g : Addr → Option Obj} {s : Shared} (h : ∀ a, g a = s.heap.get? a) : obsMG n ck fn g = (hookM n ck fn).obs s := by
  have e : g = s.heap.get? := funext h
  rw [e] <;> rfl
section
variable {ck : PySem.W.Frag → Bool} {fn : List DefM} {K : PySem.W.Frag}
theorem SaysM.chk (c : SaysM ck fn K) : ck K = true := (He.ba (show (ck K && fn.all fun d => d.ok K) = true from congrArg (fun z : AlM => z.1) c)).1
theorem SaysM.def_ (c : SaysM ck fn K) (i : Nat) {d : DefM} (h : fn[i]? = some d := by rfl) : ∃ fd, FunD K d.name d.qual d.params d.body d.scope [] [] (d.ad K) fd := by
  have c2 := (He.ba (show (ck K && fn.all fun d => d.ok K) = true from congrArg (fun z : AlM => z.1) c)).2
  have e : fn.map (fun d => fnM K (d.ad K)) = fn.map DefM.val := congrArg (fun z : AlM => z.2) c
  have e2 : (fn.map fun d => fnM K (d.ad K))[i]? = (fn.map DefM.val)[i]? := by rw [e]
  rw [List.getElem?_map, List.getElem?_map, h] at e2
  exact DefM.funD (Option.some.inj e2) (List.all_eq_true.mp c2 d (List.mem_of_getElem? h))
end
def pa (K : PySem.W.Frag) (C f : Str) : Addr := He.ma K (He.ga K C) f
def pg (K : PySem.W.Frag) (C f : Str) : Addr := match PySem.W.recIn K (pa K C f) "property" with
  | some (.ref g :: _) => g
  | _ => 0
inductive Tg where
  | b (n : String) | o (c : Str)
def tgOf (S : Sto) : Vl → Option Tg
  | .p .non => some (.b "NoneType")
  | .p (.bl _) => some (.b "bool")
  | .p (.int _) => some (.b "int")
  | .p (.str _) => some (.b "str")
  | .p (.tup _) => some (.b "tuple")
  | .p (.lst _) => some (.b "list")
  | .p (.dct _ _) => some (.b "dict")
  | .p (.obj c _ _) => some (.o c)
  | .c k => (match S[k]? with
    | some (.lst _) => some (.b "list")
    | some (.lsv _) => some (.b "list")
    | some (.dct _ _) => some (.b "dict")
    | some (.ins c _ _) => some (.o c)
    | _ => none)
  | _ => none
def isB (a n : String) : Option Bool := if a = n ∧ a ∈ comTy then some true else if a = "bool" ∧ n = "int" then some true else if a ∈ comTy ∧ n ∈ comTy ∧ a ≠ n then some false else none
structure IsiC (K : PySem.W.Frag) (cs : List Str) : Prop where
  cls : ∀ c ∈ cs, Cls K (He.ga K c) ∧ PySem.W.findIn K (.ref (He.ga K c)) "__class__" = some (some (.builtin "object.__class__")) ∧ PySem.W.specialIn K (.builtin "object.__class__") "__get__" = some (some (.builtin "getset_descriptor.__get__")) ∧
    PySem.W.takesIn K (.builtin "object.__class__") = some true ∧ PySem.W.mroIn K (He.ga K c) (.type "object") = some true
  up : ∀ c ∈ cs, ∀ n ∈ comTy, PySem.W.kitOne K (.ref (He.ga K c)) (.type n) = some false
  dn : ∀ c ∈ cs, ∀ n ∈ comTy, PySem.W.kitOne K (.type n) (.ref (He.ga K c)) = some false
  ne : ∀ c ∈ cs, ∀ d ∈ cs, c ≠ d → PySem.W.kitOne K (.ref (He.ga K c)) (.ref (He.ga K d)) = some false
theorem isiB_ok {K : PySem.W.Frag} {cs : List Str} (h : isiB K cs = true) : IsiC K cs := by
  unfold isiB at h
  obtain ⟨h1, h⟩ := He.ba h
  obtain ⟨h2, h⟩ := He.ba h
  obtain ⟨h3, h4⟩ := He.ba h
  rw [List.all_eq_true] at h1 h2 h3 h4
  refine ⟨fun c hc => ?_, fun c hc n hn => ?_, fun c hc n hn => ?_, fun c hc d hd ne => ?_⟩
  · obtain ⟨a, h⟩ := He.ba (h1 c hc)
    obtain ⟨b, h⟩ := He.ba h
    obtain ⟨c', h⟩ := He.ba h
    obtain ⟨d, e⟩ := He.ba h
    exact ⟨He.cls_ok a, He.eqO_ok b, He.eqO_ok c', of_decide_eq_true d, of_decide_eq_true e⟩
  · exact of_decide_eq_true (List.all_eq_true.mp (h2 c hc) n hn)
  · exact of_decide_eq_true (List.all_eq_true.mp (h3 c hc) n hn)
  · have z := List.all_eq_true.mp (h4 c hc) d hd
    rw [Bool.or_eq_true, decide_eq_true_eq, decide_eq_true_eq] at z
    rcases z with z | z
    · exact absurd z ne
    · exact z
def isT (cs : List Str) : Tg → P → Option Bool
  | .b a, .ty n => isB a n
  | .o c, .ty n => if c ∈ cs ∧ n ∈ comTy then some false else none
  | .b a, .glo x => if x ∈ cs ∧ a ∈ comTy then some false else none
  | .o c, .glo x => if c ∈ cs ∧ x ∈ cs then some (decide (c = x)) else none
  | _, _ => none
def eIsi (cs : List Str) (a b : ME) : ME := fun ρ S => (a ρ S).bind fun d S1 => (b ρ S1).bind fun q S2 => match tgOf S2 (nv S2 d), q with
  | some t, .p y => (match isT cs t y with
    | some r => .ok (.p (.bl r)) S2
    | none => .bad)
  | _, _ => .bad
section
variable {X : Cx} {W : WX} {a b e o : Expr} {ma mb mo : ME} {pos p : Pos}
end
end Mir

namespace Mir
open PySem L2
def reprP (x : P) : List Nat := x.toD.shown.cps.toList
def pRepr : List P → Option P
  | [.lst xs] => if (P.lst xs).dat 60 && (P.lst xs).toD.showable && decide ((reprP (.lst xs)).length ≤ 100000) then some (.str (reprP (.lst xs))) else none
  | [.tup xs] => if (P.tup xs).dat 60 && (P.tup xs).toD.showable && decide ((reprP (.tup xs)).length ≤ 100000) then some (.str (reprP (.tup xs))) else none
  | _ => none
section
variable {X : Cx} {W : WX} {a b e o : Expr} {ma mb mo : ME} {pos p : Pos} {k : Nat}
mutual
theorem P.noDict : ∀ {x : P}, x.toD.hasDict = false
  | .non => rfl
  | .bl _ => rfl
  | .int _ => rfl
  | .str _ => rfl
  | .lst xs => noDictL (xs := xs)
  | .tup xs => noDictL (xs := xs)
  | .dct _ _ => rfl
  | .dcl _ _ => rfl
  | .obj _ _ _ => rfl
  | .ty _ => rfl
  | .glo _ => rfl
  | .raw _ => rfl
  | .err _ _ _ => rfl
  | .rwp _ _ => rfl
  | .scr _ => rfl
theorem noDictL : ∀ {xs : List P}, PyData.hasDictAll (toDL xs) = false
  | [] => rfl
  | x :: xs => by
    show (x.toD.hasDict || PyData.hasDictAll (toDL xs)) = false
    rw [P.noDict, noDictL]
    rfl
end
end
section
variable {K : PySem.W.Frag} {F : Hp}
end
section
variable {K : PySem.W.Frag} {io : Io} {F : Hp} {S : Sto} {H : Hp}
end
section
variable {X : Cx} {W : WX} {a b e o : Expr} {ma mb mo : ME} {pos p : Pos} {k : Nat}
end
end Mir

namespace Mir
open PySem L2
theorem rwpB_ok {y z : List Nat} : ∀ {l : List Value}, rwpB y z l = true → ∃ t u, l = [.str (strOf y) t, .str (strOf z) u] ∧ t ≠ 0 ∧ u ≠ 0 ∧ t ≠ u ∧ (strOf y == strOf z) = false
  | [.str x t, .str w u], h => by
    obtain ⟨h1, h⟩ := He.ba (show (decide (strOf y = x) && (decide (strOf z = w) && (decide (t ≠ 0) && (decide (u ≠ 0) && (decide (t ≠ u) && !(strOf y == strOf z)))))) = true from h)
    obtain ⟨h2, h⟩ := He.ba h
    obtain ⟨h3, h⟩ := He.ba h
    obtain ⟨h4, h⟩ := He.ba h
    obtain ⟨h5, h6⟩ := He.ba h
    have h1 := of_decide_eq_true h1
    have h2 := of_decide_eq_true h2
    subst h1 h2
    refine ⟨t, u, rfl, of_decide_eq_true h3, of_decide_eq_true h4, of_decide_eq_true h5, ?_⟩
    cases q : strOf y == strOf z with
    | false => rfl
    | true => rw [q] at h6; cases h6
section
variable {K : PySem.W.Frag}
mutual
theorem repK_ok : ∀ {x : P} {u : Value}, repK K x u = true → ∃ v, RelV v u ∧ ∀ F, Rep K F x v
  | .non, u, h => by
    cases u <;> first | exact ⟨.non, rfl, fun _ => rfl⟩ | cases h
  | .bl b, u, h => by
    cases u with
    | bool c =>
      have h : (b == c) = true := h
      rw [beq_iff_eq] at h
      subst h
      exact ⟨.bl b, rfl, fun _ => rfl⟩
    | _ => cases h
  | .int i, u, h => by
    cases u with
    | int j t =>
      have h : decide (i = j) = true := h
      rw [decide_eq_true_eq] at h
      subst h
      exact ⟨.int i, ⟨_, rfl⟩, fun _ => rfl⟩
    | _ => cases h
  | .str x, u, h => by
    cases u with
    | str y t =>
      have h : decide (strOf x = y) = true := h
      rw [decide_eq_true_eq] at h
      subst h
      exact ⟨.str (strOf x), ⟨_, rfl⟩, fun _ => rfl⟩
    | _ => cases h
  | .ty n, u, h => by
    cases u with
    | type m =>
      have h : decide (n = m) = true := h
      rw [decide_eq_true_eq] at h
      subst h
      exact ⟨.ty n, rfl, fun _ => rfl⟩
    | _ => cases h
  | .glo x, u, h => by
    cases u with
    | ref a =>
      have h : decide (He.ga K x = a) = true := h
      rw [decide_eq_true_eq] at h
      subst h
      exact ⟨.ref _, rfl, fun _ => rfl⟩
    | _ => cases h
  | .raw _, u, h => by cases u <;> cases h
  | .err _ _ _, u, h => by cases u <;> cases h
  | .rwp y z, u, h => by
    cases u with
    | ref a =>
      have h : (match K.lookup a with
        | some ⟨.type c, _, .seq its _, _⟩ => decide (c = "tuple") && rwpB y z its.toList
        | _ => false) = true := h
      split at h
      · rename_i c od its n sl q
        obtain ⟨h1, h⟩ := He.ba h
        obtain ⟨t, u, e, q1, q2, q3, q4⟩ := rwpB_ok h
        refine ⟨.ref a, rfl, fun F => ⟨a, t, u, rfl, ⟨⟨_, n, .inr q, congrArg Value.type (of_decide_eq_true h1), ?_⟩, q1, q2, q3, q4⟩⟩⟩
        have e2 : its = #[.str (strOf y) t, .str (strOf z) u] := by rw [← Array.toArray_toList (xs := its), e]
        rw [e2]
      · cases h
    | _ => cases h
  | .tup xs, u, h => by
    cases u with
    | ref a =>
      have h : (match K.lookup a with
        | some ⟨.type c, _, .seq its _, _⟩ => decide (c = "tuple") && (decide (its.size ≤ sizeLine) && repKs K xs its.toList)
        | _ => false) = true := h
      split at h
      · rename_i c od its n sl q
        obtain ⟨h1, h⟩ := He.ba h
        obtain ⟨h2, h3⟩ := He.ba h
        obtain ⟨vs, r1, r2⟩ := repKs_ok h3
        exact ⟨.ref a, rfl, fun F => ⟨a, vs, rfl, .inr ⟨_, its, n, q, congrArg Value.type (of_decide_eq_true h1), rfl, of_decide_eq_true h2, r1⟩, r2 F⟩⟩
      · cases h
    | _ => cases h
  | .lst _, u, h => by cases u <;> cases h
  | .dct _ _, u, h => by cases u <;> cases h
  | .dcl _ _, u, h => by cases u <;> cases h
  | .obj _ _ _, u, h => by cases u <;> cases h
  | .scr _, u, h => by cases u <;> cases h
theorem repKs_ok : ∀ {xs : List P} {us : List Value}, repKs K xs us = true → ∃ vs, Vals vs us ∧ ∀ F, RepL K F xs vs
  | [], [], h => ⟨[], .nil, fun _ => .nil⟩
  | [], _ :: _, h => by cases h
  | _ :: _, [], h => by cases h
  | x :: xs, u :: us, h => by
    obtain ⟨h1, h2⟩ := He.ba h
    obtain ⟨v, r1, r2⟩ := repK_ok h1
    obtain ⟨vs, r3, r4⟩ := repKs_ok h2
    exact ⟨v :: vs, .cons r1 r3, fun F => .cons (r2 F) (r4 F)⟩
end
def GV (K : PySem.W.Frag) (mg : Str → Option Value) (x : Str) (p : P) : Prop := ∃ u v, mg x = some u ∧ RelV v u ∧ ∀ F, Rep K F p v
theorem gloB_ok {h : Heap} {mg : Str → Option Value} (X : K.In h) (G : h.Ns mainGlobals mg) {x : Str} {p : P} (c : gloB K x p = true) : GV K mg x p := by
  unfold gloB at c
  split at c
  · rename_i u e
    obtain ⟨v, r, hp⟩ := repK_ok c
    exact ⟨u, v, PySem.W.mg_of X G e, r, hp⟩
  · cases c
end
section
variable {X : Cx} {W : WX} {a b c e o : Expr} {ma mb mc mo : ME} {pos p : Pos} {k : Nat}
theorem oe_gV {x : Str} {q : P} (h : GV X.K X.mg x q) (hg : Gl X x := by rfl) (hd : (x == ("__debug__" : Str)) = false := by decide) : OE X W (.Name x pos) (eC q) := by
  obtain ⟨u, v, h1, h2, h3⟩ := h
  exact oe_glob h1 h2 h3 hg hd
theorem oe_gC {x : Str} (h : X.mg x = some (.ref (He.ga X.K x))) (hg : Gl X x := by rfl) (hd : (x == ("__debug__" : Str)) = false := by decide) : OE X W (.Name x pos) (eC (.glo x)) := oe_glob (v := .ref _) h rfl (fun _ => rfl) hg hd
theorem oe_bT {x : Str} {n : String} (hm : X.mg x = none) (hv : bootBuiltins x = some (.type n) := by first | rfl | decide +kernel) (hg : Gl X x := by rfl) (hn : x ≠ "__name__" := by decide) (hd : (x == ("__debug__" : Str)) = false := by decide) : OE X W (.Name x pos) (eC (.ty n)) := oe_bltn (v := .ty n) hm hv rfl (fun _ => rfl) hg hn hd
abbrev bLt : P → P → Option P := pIB fun i j => decide (i < j)
def sParG (n : Nat) (m : MA) (r : MGs) : MS := fun ρ S => (m ρ S).go ρ fun ds S1 => if ds.length = n ∧ n ≤ 100000 then ((r ds ρ S1).nox).go ρ fun ρ1 S2 => .ok (.nx ρ1) S2 else .bad
def sPar3 (i j l : Nat) (a : MA) : MS := fun ρ S => (a ρ S).go ρ fun ds S1 => match ds with
  | [d, d2, d3] => .ok (.nx (((ρ.set i (some d)).set j (some d2)).set l (some d3))) S1
  | _ => .bad
end
end Mir

namespace Mir
open PySem L2
def below (n : Nat) (ds : List Vl) : Bool := ds.all fun d => match d with
  | .p _ => true
  | .c j => decide (j < n)
section
variable {K : PySem.W.Frag} {Q : VK} {E : XK}
end
section
variable {X : Cx} {W : WX} {elt tg iter : Expr} {ifs : List Expr} {scope : Scope} {own : List (Str × Nat)} {pos : Pos} {it : MI} {js : List Nat} {g : MG} {t : MT} {e : ME}
end
def pInD (y z : P) : Option P := match z with
  | .lst xs => if y.dat 60 && (P.lst xs).dat 60 then some (.bl (inP y xs)) else none
  | _ => none
def pNotInD (y z : P) : Option P := match z with
  | .lst xs => if y.dat 60 && (P.lst xs).dat 60 then some (.bl (!inP y xs)) else none
  | _ => none
def pIn2 (x y : P) : Option P := match pIn x y with
  | some z => some z
  | none => pInD x y
def pNotIn2 (x y : P) : Option P := match pNotIn x y with
  | some z => some z
  | none => pNotInD x y
section
variable {X : Cx} {W : WX} {a b : Expr} {ma mb : ME} {pos : Pos} {k : Nat}
theorem room65 {A : Around} (hr : Room k A) : A.units + 65 < cLine := by have := hr.un; omega
end
end Mir

namespace Mir
open PySem L2
def lcGo2 (g : MG) (t : MT) (it1 : MI) (vs1 : List Nat) (g1 : MG) (t1 : MT) (e : ME) (ρ : En) : List P → Sto → Res (List P)
  | [], S => .ok [] S
  | x :: xs, S => (g (.p x) ρ S).nox.bind fun ρ1 S1 => (t ρ1 S1).nox.bind fun b S2 => match b with
    | true => (it1 ρ1 S2).nox.bind fun zs S3 => if zs.length ≤ 4000 then (lcGo g1 t1 e (wipeE ρ1 vs1) zs S3).bind fun us S4 => (lcGo2 g t it1 vs1 g1 t1 e ρ xs S4).bind fun ws S5 => .ok (us ++ ws) S5 else .bad
    | false => lcGo2 g t it1 vs1 g1 t1 e ρ xs S2
def eLc2 (it : MI) (vs : List Nat) (g : MG) (t : MT) (it1 : MI) (vs1 : List Nat) (g1 : MG) (t1 : MT) (e : ME) : ME := fun ρ S => (it ρ S).bind fun xs S1 => if xs.length ≤ 4000 then (lcGo2 g t it1 vs1 g1 t1 e (wipeE ρ vs) xs S1).bind fun ys S2 => .ok (.p (.lst ys)) S2 else .bad
section
variable {K : PySem.W.Frag} {Q : VK} {E : XK}
end
def tI1 (K : PySem.W.Frag) (m : MI) : TI := fun σ H R => ∃ ρ S io F, Sta K io F S H ∧ Mir.Env K io F ρ σ ∧ RG K (RepJ K) (m ρ S) io F H R (fun c d H' => False)
theorem OI.pi {X : Cx} {tg iter : Expr} {m : MI} (h : OI X W0 tg iter m) : PI X tg iter (tI1 X.K m) := by
  obtain ⟨t, p, h⟩ := h
  exact ⟨fun pins s σ H R I ⟨ρ, S, io, F, st, en, q⟩ => p.run pins s σ H R I (h ρ S io F σ H R st en q)⟩
section
variable {X : Cx} {W : WX} {elt tg iter tg1 iter1 : Expr} {ifs ifs1 : List Expr} {scope : Scope} {own : List (Str × Nat)} {pos : Pos} {it it1 : MI} {js js1 vs1 : List Nat} {g g1 : MG} {t t1 : MT} {e : ME}
end
end Mir

namespace Mir
open PySem L2
section
variable {X : Cx} {W : WX} {x : Str} {params : Arguments} {ps ks : List Str} {k j : Nat} {m : MF} {pm : List Nat} {kws : List Keyword} {mks : MA} {p pos : Pos}
end
def eRgL (m : ME) : ME := fun ρ S => (m ρ S).bind fun d S1 => match d with
  | .p (.int j) => if 0 ≤ j ∧ j ≤ 100000 then .ok (.p (.lst (rangeP 0 j.toNat))) S1 else .bad
  | _ => .bad
section
variable {X : Cx} {W : WX} {a b : Expr} {ma mb : ME} {p p2 pos pos2 : Pos}
end
def pIs : P → P → Option P
  | .bl a, .bl b => some (.bl (decide (a = b)))
  | _, _ => none
def pIsNot : P → P → Option P
  | .bl a, .bl b => some (.bl (!decide (a = b)))
  | _, _ => none
section
variable {X : Cx} {W : WX} {a b : Expr} {ma mb : ME} {pos : Pos}
end
section
variable {X : Cx} {W : WX} {a : Expr} {es : List Expr} {ma : ME} {mas : MA} {p : Pos}
end
abbrev MJ := List Nat → En → Sto → Res (List Nat)
section
variable {X : Cx} {W : WX} {a : Expr} {es : List Expr} {ma : ME} {mj : MJ} {p pos : Pos}
end
end Mir

namespace Mir
open PySem L2
section
variable {K : PySem.W.Frag} {io : Io} {F H : Hp} {S : Sto}
end
section
variable {X : Cx} {W : WX} {pos : Pos} {es : List Expr} {mas : MA}
end
section
variable {X : Cx} {W : WX} {pos : Pos} {mo : ME}
end
section
variable {X : Cx} {W : WX} {x : Str} {p pos : Pos} {params : Arguments} {ps : List Str} {k j : Nat} {m : MF}
end
section
variable {X : Cx} {W : WX} {a b i o v : Expr} {ma mb mi mo mv : ME} {pos pos' : Pos} {k : Nat}
end
end Mir

namespace Mir
open PySem L2
section
variable {X : Cx} {W : WX} {e : Expr} {m : ME} {k : Nat} {p1 p2 p3 p4 dpos pos : Pos} {j1 j2 j3 j4 : Nat} {x1 x2 x3 x4 : Str} {a b c d : List Nat}
end
end Mir

namespace Mir
open PySem L2 PyProof.Rows
open AutoSeq1 (wpAny_loadPart')
section
variable {prog : Program} {w : World} {A : Around} {E : Value → Shared → Prop} {s : Shared}
end
section
variable {prog : Program} {w : World} {A : Around} {E : Value → Shared → Prop} {s : Shared}
end
section
variable {X : Cx} {W : WX} {a : Expr} {ma : ME} {p pos tpos : Pos}
end
end Mir

namespace Mir
open PySem L2
section
variable {X : Cx} {W : WX} {a o : Expr} {ma mo : ME} {apos pos p : Pos}
end
end Mir

namespace Mir
open PySem L2
section
variable {K : PySem.W.Frag}
end
section
variable {X : Cx} {W : WX} {a : Expr} {ma : ME} {pos p : Pos}
end
end Mir

namespace Mir
open PySem L2 PyProof.Rows
section
variable {X : Cx} {W : WX} {a b : Expr} {ma mb : ME} {p pos tpos : Pos}
end
end Mir

namespace Mir
open PySem L2
def eCut (m : ME) : ME := fun ρ S => (m ρ S).bind fun d S1 => (frz d S1).bind fun x S2 => .ok (.p x) (S2.take S.length)
theorem oe_cut {X : Cx} {W : WX} {a : Expr} {ma : ME} (h : OE X W a ma) : OE X W a (eCut ma) := by
  obtain ⟨t, q, h⟩ := h
  refine ⟨t, q, fun ρ S io F σ H Q st en hw => h ρ S io F σ H Q st en ?_⟩
  unfold eCut at hw
  cases e : ma ρ S with
  | bad => rw [e] at hw; exact hw
  | exc c d S1 => rw [e] at hw; exact hw
  | ok d S1 =>
    rw [e] at hw
    intro io1 F1 H1 v nx s1 r1
    have hw : RG X.K (RepA X.K) ((frz d S1).bind fun x S2 => .ok (.p x) (S2.take S.length)) io F H Q _ := hw
    obtain ⟨x, S2, F2, n2, s2, rp, hz, _⟩ := s1.frz r1 (RG.step nx hw)
    rw [hz] at hw
    exact hw (io1.take S.length) F2 H1 v ((nx.trans n2).cut st.len) (s2.cut _) rp
section
variable {X : Cx} {W : WX} {pos : Pos}
end
section
variable {X : Cx} {W : WX} {a b i o v f : Expr} {ma mb mi mo mv mf : ME} {pos pos' apos : Pos} {k : Nat}
end
section
variable {K : PySem.W.Frag}
end
section
variable {X : Cx} {W : WX} {a : Expr} {ma : ME} {pos p : Pos}
end
end Mir

namespace Mir
open PySem L2
section
variable {prog : Program} {w : World} {A : Around} {E : Value → Shared → Prop} {s : Shared}
end
section
variable {X : Cx} {W : WX} {a b : Expr} {ma mb : ME} {p p2 pos pos2 : Pos}
end
end Mir

namespace Mir
open PySem L2
section
variable {K : PySem.W.Frag}
end
section
variable {X : Cx} {W : WX} {a : Expr} {ma : ME} {pos p : Pos}
end
end Mir

namespace Mir
open PySem L2
section
variable {X : Cx} {W : WX} {a b : Expr} {ma mb : ME} {p p2 pos pos2 : Pos}
end
section
variable {X : Cx} {W : WX} {pos : Pos}
end
end Mir

namespace NeK
open PySem PySem.Spec PyProof.Rows PySem.SeqAt
section
variable {M : Model} {prog : Program} {w : World} {A : Around} {E : Value → Shared → Prop} {s : Shared} {K : PySem.W.Frag} {x C f : Addr} {ox : Obj} {od : Option Obj} {b tb : Value}
end
end NeK
namespace Mir
open PySem L2
section
variable {X : Cx} {W : WX} {a b : Expr} {ma mb : ME} {x : Str} {pos : Pos} {params : Arguments} {ps : List Str} {k j : Nat} {m : MF}
end
end Mir
namespace Mir
open PySem L2
abbrev DTab := List (List Nat × P)
section
variable {X : Cx} {W : WX} {pos : Pos} {keys : List (Option Expr)} {values : List Expr}
end
section
variable {X : Cx} {W : WX} {i f : Expr} {mi mf : ME} {ti tf : TE} {x : Str} {p0 apos cpos pos : Pos} {d : Addr} {es : Array DictEntry} {n : Nat} {tab : DTab}
end
section
variable {ck : PySem.W.Frag → Bool} {fn : List DefM} {ts : List He.Tab} {w : World} {K : PySem.W.Frag}
theorem SaysMT.tab (c : SaysMT ck fn ts w K) (i : Nat) {t : He.Tab} (h : ts[i]? = some t := by rfl) : ∃ es n, KDict K w (t.1 K) es n := by
  have e : ts.map (fun t => He.dicW K (t.1 K)) = ts.map fun t => some (He.keysIn w.params t.2) := congrArg (fun z : AlMT => z.2) c
  have e2 : (ts.map fun t => He.dicW K (t.1 K))[i]? = (ts.map fun t => some (He.keysIn w.params t.2))[i]? := by rw [e]
  rw [List.getElem?_map, List.getElem?_map, h] at e2
  exact He.dicW_ok (Option.some.inj e2)
end
end Mir

namespace Mir
open PySem L2
section
variable {X : Cx} {k : Nat}
end
section
variable {K : PySem.W.Frag}
end
section
variable {X : Cx} {W : WX} {a : Expr} {ma : ME} {pos p : Pos} {k : Nat}
end
end Mir

namespace EqM
open PySem PySem.Spec PyProof.Rows PySem.SeqAt
open AutoSeq1 (wpAny_loadPart')
section
variable {prog : Program} {w : World} {A : Around} {E : Value → Shared → Prop} {s : Shared} {K : PySem.W.Frag} {y C : Addr} {oy : Obj} {od : Option Obj}
end
end EqM

namespace EqM
open PySem PySem.Spec PyProof.Rows PySem.SeqAt
section
variable {prog : Program} {w : World} {A : Around} {E : Value → Shared → Prop} {s : Shared} {K : PySem.W.Frag} {y C f : Addr} {oy : Obj} {od : Option Obj}
end
end EqM

namespace Mir
open PySem L2
section
variable {X : Cx} {pins : List (Addr × Obj)} {σ : St} {H : Hp} {s : Shared}
end
section
variable {X : Cx} {W : WX} {a b : Expr} {ma mb : ME} {x : Str} {pos : Pos} {params : Arguments} {ps : List Str} {k j : Nat} {m : MF}
end
end Mir

namespace Mir
open PySem PySem.Spec PyProof.Rows L2
section
variable {X : Cx}
end
section
variable {X : Cx} {W : WX} {e : Expr} {me : ME}
end
def eDct0 : ME := fun _ S => .ok (.p (.dct [] [])) S
section
variable {X : Cx} {W : WX} {pos : Pos}
theorem oe_dct0 : OE X W (.Dict [] [] pos) eDct0 := by
  refine ⟨_, pe_dnewK, fun ρ S io F σ H Q st en hw => fun p hp => ?_⟩
  obtain ⟨s3, n3⟩ := st.froze (o := .dK []) hp
  exact hw _ _ _ (.ref p) n3 s3 ⟨p, [], rfl, upd_same, .nil, .nil⟩
end
section
variable {K : PySem.W.Frag}
end
section
variable {X : Cx} {W : WX} {a : Expr} {ma : ME} {pos p : Pos}
end
section
variable {X : Cx} {W : WX} {a : Expr} {ma : ME} {x : Str} {pos p : Pos} {params : Arguments} {ps : List Str} {k j : Nat} {m : MF}
end
end Mir

namespace Mir
open PySem L2
section
variable {X : Cx} {W : WX} {mks : MA} {x : Str} {p pos : Pos} {params : Arguments} {ps ks : List Str} {k j : Nat} {m : MF} {kws : List Keyword} {kp : Bool}
end
end Mir

namespace Mir
open PySem L2
section
variable {X : Cx} {pins : List (Addr × Obj)} {σ : St} {H F : Hp} {s : Shared}
end
section
variable {X : Cx} {W : WX} {pos : Pos}
end
end Mir

namespace Mir
open PySem L2
def DnAt (K : PySem.W.Frag) (η : NestedKey → Int) (H : Hp) (a : Addr) (es : List (NestedKey × Addr × V)) : Prop := ∃ F ks, Same F H ∧ H a = some (DNo η a es) ∧ nkL ks = some (es.map (·.1)) ∧ RepL K F ks (es.map fun e => V.ref e.2.1)
section
variable {X : Cx} {pins : List (Addr × Obj)} {σ : St} {H : Hp} {s : Shared} {a b : Addr} {es : List (NestedKey × Addr × V)} {k : NestedKey}
end
noncomputable def sameH (a b : NestedKey → Int) : Bool := @decide (a = b) (Classical.propDecidable _)
theorem sameH_ok {a b : NestedKey → Int} (h : sameH a b = true) : a = b := @of_decide_eq_true _ (Classical.propDecidable _) h
noncomputable def isDN (η : NestedKey → Int) (S : Sto) : Vl → Bool
  | .c j => (match S[j]? with
    | some (.dcN η' _ _) => sameH η' η
    | _ => false)
  | _ => false
theorem Sta.dn {K : PySem.W.Frag} {io : Io} {F H : Hp} {S : Sto} {η : NestedKey → Int} (st : Sta K io F S H) {d : Vl} {v : V} (r : RepV K io F d v) (h : isDN η S d = true) : ∃ a es, v = .ref a ∧ DnAt K η H a es := by
  cases d with
  | p x => cases h
  | c j =>
    unfold isDN at h
    dsimp only at h
    split at h
    · rename_i η' ks xs hk
      have e : η' = η := sameH_ok h
      subst e
      obtain ⟨a, ha, rfl⟩ := r
      obtain ⟨b, es, hb, hF, hH, h1, h2, h3⟩ := st.cel j _ hk
      rw [ha] at hb; cases hb
      exact ⟨a, es, rfl, F, ks, st.sub, hH, h1, h2⟩
    · cases h
section
variable {X : Cx} {W : WX} {o e f : Expr} {mo me mf : ME} {td ty tx : TE} {apos cpos : Pos} {j : Nat}
end
end Mir

namespace Mir
open PySem L2
section
variable {X : Cx} {W : WX} {o e f : Expr} {mo me mf : ME} {td ty tx : TE} {apos cpos pos p mpos : Pos} {j : Nat}
end
section
variable {K : PySem.W.Frag} {io io1 : Io} {F F1 H H1 : Hp} {S S1 : Sto} {Q : VK} {E : XK}
end
section
variable {P : Program} {w : World} {K : PySem.W.Frag} {mg : Str → Option Value} {base : Heap} {x qual : Str} {params : Arguments} {body : List Stmt} {scope : Scope} {dvs : List V} {kws : List (Str × V)} {f : Addr} {fd : FuncData} {N ps : List Str} {k nl : Nat} {m : MS}
end
end Mir

namespace Mir
open PySem L2
section
variable {X : Cx} {W : WX} {tg iter : Expr} {me : ME} {m : MS} {pos : Pos}
end
section
variable {K : PySem.W.Frag} {Q : VK} {E : XK}
end
section
variable {X : Cx} {W : WX} {elt tg iter : Expr} {ifs : List Expr} {scope : Scope} {own : List (Str × Nat)} {pos : Pos} {me : ME} {js : List Nat} {g : MG} {t : MT} {e : ME}
end
end Mir

namespace Mir
open PySem PySem.Spec L2 PySem.Builtin PySem.Builtin.ObjectAttr
structure ExB (newId : String) (bmB : List Value) : Prop where
  bf : ∃ B i, ExcBaseFacts B newId i bmB
  sf : ∃ B, StoreFacts B bmB "object.__setattr__" "object"
theorem exb_V : ExB "ValueError.__new__" bmV := ⟨⟨_, _, F.excBase_ValueError⟩, ⟨_, F.store_ValueError⟩⟩
theorem exb_L : ExB "LookupError.__new__" bmL := ⟨⟨_, _, F.excBase_LookupError⟩, ⟨_, F.store_LookupError⟩⟩
theorem exb_A : ExB "ArithmeticError.__new__" bmA := ⟨⟨_, _, F.excBase_ArithmeticError⟩, ⟨_, F.store_ArithmeticError⟩⟩
structure OexG (K : PySem.W.Frag) (C : Addr) : Prop where
  cls : ∃ newId bmB, ExB newId bmB ∧ PySem.W.excInitIn K C bmB newId = true ∧ PySem.W.excOver K C bmB = true
  hd : ∃ cd, PySem.W.clsIn K C = some cd ∧ cd.hasDict = true
  sa : PySem.W.findIn K (.ref C) "__setattr__" = some (some (.builtin "object.__setattr__"))
  exC : PySem.W.subIn K (.ref C) (.type "BaseException") = some true
  tyC : PySem.W.typeIn K (.ref C) = some (.type "type")
  kC : PySem.W.keepIn K (.ref C) = true
section
variable {prog : Program} {w : World} {A : Around} {E : Value → Shared → Prop} {R : Result → Shared → Prop} {hp : Heap} {g : Array GenState} {d : Drawn} {t : Nat} {os : OsState}
theorem osa_newG {K : PySem.W.Frag} {B : String} {bmB : List Value} {name : Str} {tk : Tok} {v : Value} {x C : Addr} {fv : Array Value} {cd : ClassData} (SF : StoreFacts B bmB "object.__setattr__" "object")
    (X : K.In hp) (hx : hp.get? x = some { cls := .ref C, data := .fields fv }) (ho : PySem.W.excOver K C bmB = true) (hcd : PySem.W.clsIn K C = some cd) (hh : cd.hasDict = true) (ha : PySem.W.findIn K (.ref C) name = some none)
    (hq : ∀ h' tk' dx, (∀ b o, b ≠ x → hp.get? b = some o → h'.get? b = some o) → hp.objs.size ≤ dx → dx ≠ x → h'.get? x = some { cls := .ref C, dict := some dx, data := .fields fv } →
      h'.Ns1 dx (fun y => if y = name then some v else none) → R (.ok (.ret .none)) ⟨h', g, d, tk', os⟩) :
    codeAny (model prog w) A (.call (.builtin "object.__setattr__") ⟨[.ref x, .str name tk, v], []⟩) R ⟨hp, g, d, t, os⟩ := by
  have I : PySem.W.InstAt hp x { cls := .ref C, data := .fields fv } C none := ⟨hx, rfl, rfl, trivial⟩
  have hxs : x ≠ hp.objs.size := Nat.ne_of_lt (Heap.lt_size hx)
  have hcls : PySem.W.Looks (model prog w) hp (classData C) cd := PySem.W.looks_clsIn X hcd
  refine PySem.W.osa_openX (s := ⟨hp, g, d, t, os⟩) SF X I ho (r := none) (by unfold PySem.W.takerIn; rw [ha]; rfl) fun b => ?_
  show wpAny _ _ (storeInOwnDict (.ref x) (.ref C) (.str name tk) name v b) _ _ _
  obtain ⟨nm, bs, mro, ns, qn, hd, sn, sb, ab, col, del⟩ := cd
  dsimp only at hh
  subst hh
  unfold storeInOwnDict ownDictForStores
  repeat (first | with_reducible refine PySem.HandSPX.store_in_new ?_ ?_ | with_reducible refine wpAny_loadPart_at hx ?_ | with_reducible refine hcls.at ?_ | wp_step)
  · exact ⟨_, #[], _, (Heap.get?_update_ne _ _ _ _ hxs.symm).trans (Heap.get?_push_at rfl rfl), rfl, fun e he => absurd he (by simp), fun _ => rfl⟩
  · intro h' tk' hn' hs
    have hx₁ : (hp.push { cls := .type "dict", data := .dict #[] }).get? x = some { cls := .ref C, data := .fields fv } := Heap.get?_push_of_some _ hx
    refine hq h' tk' hp.objs.size (fun b o hb ho => ?_) (Nat.le_refl _) hxs.symm ?_ hn'
    · exact (hs.2 b (Nat.ne_of_lt (Heap.lt_size ho))).trans ((Heap.get?_update_ne _ _ _ _ hb).trans (Heap.get?_push_of_some _ ho))
    · exact (hs.2 x hxs).trans (Heap.get?_update_self _ hx₁ rfl)
end
section
variable {X : Cx} {pins : List (Addr × Obj)} {σ : St} {H : Hp} {s : Shared} {a C dx : Addr} {f : Str} {y : V} {u : Value} {fs : List (Str × V)} {Q : Unit → Shared → Prop} {E : Value → Shared → Prop} {A : Around}
theorem ost_newG (T : OexG X.K C) (I : Inv X pins σ H s) (e : H a = some (exo a C none)) (hno : PySem.W.findIn X.K (.ref C) f = some none) (ry : RelV y u)
    (h : ∀ dx s', H dx = none → dx ≠ a → Inv X pins σ (upd (upd H dx (exd dx [(f, y)])) a (exo a C (some dx))) s' → Q () s') : wpAny (model X.prog X.w) A (setAttr (.ref a) f u) Q E s := by
  obtain ⟨newId, bmB, ⟨_, ⟨B, SF⟩⟩, _, hov⟩ := T.cls
  obtain ⟨cd, hcl, hdt⟩ := T.hd
  obtain ⟨t1, ho⟩ := exo_at I.hok e
  obtain ⟨hp, g, d, t, os⟩ := s
  refine PySem.W.set_plain I.kIn (ox := { cls := .ref C, dict := none, data := .fields #[.ref t1, .none, .none, .none, .bool false, .none] }) (od := none) ⟨ho, rfl, rfl, trivial⟩ T.sa ?_
  refine osa_newG SF I.kIn ho hov hcl hdt hno (fun h' tk' dx k dn dne hx hn => ?_)
  have hnd : H dx = none := I.hok.fresh dn
  have nd : ∀ {b : Addr} {o : Obj}, hp.get? b = some o → b ≠ dx := fun {b o} q => Nat.ne_of_lt (Nat.lt_of_lt_of_le (Heap.lt_size q) dn)
  have na : ∀ {b : Addr}, H b = none → b ≠ a := fun {b} n z => by
    rw [z, e] at n
    cases n
  have Un1 : Un X.fs [] H (upd (upd H dx (exd dx [(f, y)])) a (exo a C (some dx))) hp h' := {
    keep := fun b o q n _ _ => k b o (na n) q
    slot := fun b o q n _ _ => ⟨o.slots, k b o (na n) q⟩
    free := fun b o q n _ => by rw [upd_ne (na n), upd_ne (nd q)]; exact n
    there := fun b o q _ => by
      by_cases hb : b = a
      · exact ⟨_, by rw [hb]; exact hx⟩
      · exact ⟨o, k b o hb q⟩
    tups := fun b xs q => by rw [upd_ne (at_ne e q exo_tup), upd_ne (ne_of_none q hnd)]; exact q
    frzs := fun b o v q => by rw [upd_ne (at_ne e q exo_frz), upd_ne (ne_of_none q hnd)]; exact q
    tbls := fun b ps q => ⟨#[], by rw [upd_ne (at_ne e q exo_tbl), upd_ne (ne_of_none q hnd), q]; simp⟩ }
  refine h dx _ hnd dne (I.un (t' := tk') Un1 fun b o q => ?_)
  by_cases hb : b = a
  · subst hb
    rw [upd_same] at q
    cases q
    exact exo_ok hx
  · rw [upd_ne hb] at q
    by_cases hd : b = dx
    · subst hd
      rw [upd_same] at q
      cases q
      exact exd_ok hn (relO_put (fs := []) ry fun g => True.intro)
    · rw [upd_ne hd] at q
      exact (I.hok b o q).stay (fun c v hc z => k c v (by
          rcases hc with hc | hc
          · rw [hc]
            exact hb
          · exact at_ne e hc exo_own) z)
        (fun c hc => by rw [upd_ne (at_ne e hc exo_own), upd_ne (ne_of_none hc hnd)]; exact hc) (fun c xs hc => by rw [upd_ne (at_ne e hc exo_tup), upd_ne (ne_of_none hc hnd)]; exact hc)
end
def tOs1 (K : PySem.W.Frag) (f : Str) (to te : TE) : TS := fun D σ H => te σ H fun y H1 => to σ H1 fun x H2 => ∃ a C : Addr, x = .ref a ∧ OexG K C ∧ PySem.W.findIn K (.ref C) f = some none ∧
  H2 a = some (exo a C none) ∧ ∀ dx, H2 dx = none → dx ≠ a → D.nx σ (upd (upd H2 dx (exd dx [(f, y)])) a (exo a C (some dx)))
section
variable {X : Cx} {o e : Expr} {es : List Expr} {to te : TE} {ta : TA} {f : Str} {p p' p1 p2 pos : Pos}
theorem ps_os1 (ho : PE X o to) (he : PE X e te) (hs : swapsWith e (some (.Attribute o f p')) pos.line X.env = pure false := by rfl) : PS X (.Assign [.Attribute o f p'] e pos) (tOs1 X.K f to te) := by
  refine ⟨fun pins s σ H D I h => ?_⟩
  refine plainObj_wpAny_Assign_Attribute (thn (he.run pins s σ H _ I h) fun v s1 ⟨y, H1, I1, r1, q1⟩ => thn (ho.run pins s1 σ H1 _ I1 q1) fun u s2 ⟨x, H2, I2, r2, a, C, ex, T, hno, ea, q⟩ => ?_) hs
  subst ex
  obtain rfl : u = Value.ref a := r2
  exact ost_newG T I2 ea hno r1 fun dx s' n ne J => ⟨σ, _, J, q dx n ne⟩
end
def spXI (C : Addr) (f : Str) : Sp := fun vs H Q _ => ∃ a y, vs = [.ref a, y] ∧ H a = some (exo a C none) ∧ ∀ dx, H dx = none → dx ≠ a → Q .non (upd (upd H dx (exd dx [(f, y)])) a (exo a C (some dx)))
theorem fn_xinit {P : Program} {w : World} {K : PySem.W.Frag} {mg : Str → Option Value} {base : Heap} {x qual sn yn : Str} {params : Arguments} {body : List Stmt} {scope : Scope} {fI C : Addr} {fd : FuncData} {k : Nat} {f : Str} {p1 p2 p3 pos : Pos}
    (F : FunD K x qual params body scope [] [] fI fd) (sc : FnScope [sn, yn] [sn, yn] scope) (T : OexG K C) (hno : PySem.W.findIn K (.ref C) f = some none) (hb : body = [.Assign [.Attribute (.Name sn p1) f p2] (.Name yn p3) pos])
    (v1 : Vis scope sn) (v2 : Vis scope yn) (d1 : (sn == ("__debug__" : Str)) = false := by decide) (d2 : (yn == ("__debug__" : Str)) = false := by decide) (c1 : (sn == ("__classdict__" : Str)) = false := by decide) (c2 : (yn == ("__classdict__" : Str)) = false := by decide) :
    FnG P w K mg base (k + 1) fI fd [sn, yn] (spXI C f) := by
  refine fnG_of F sc (fun vs H Q E h => ?_) fun cdv A outer s H vs Q E hr h => ?_
  · obtain ⟨a, y, rfl, _⟩ := h
    rfl
  · obtain ⟨a, y, rfl, ha, q⟩ := h
    subst hb
    refine ⟨_, pss_one (ps_os1 (pe_var (i := 0) rfl v1 d1 c1) (pe_var (i := 1) rfl v2 d2 c2)), ?_⟩
    exact ⟨y, rfl, .ref a, rfl, a, C, rfl, T, hno, ha, fun dx n ne => q dx n ne⟩
end Mir

namespace Mir
open PySem PySem.Spec PyProof.Rows
abbrev Cls1 := Value × Option Nat × (Addr → Value → Option Addr → L2.TS)
end Mir
namespace PySem.W
open PySem PySem.Spec PySem.Calls PyProof.Rows
end PySem.W
namespace L2
open PySem PySem.Spec PyProof.Rows
section
variable {X : Cx} {body : List Stmt} {h₀ : ExceptHandler} {hds : List ExceptHandler} {l : List Mir.Cls1} {pos : Pos} {tb : WX → TS} {Wout : WX}
end
end L2

namespace PySem.W
open PySem PySem.Spec PySem.Calls PyProof.Rows
section
variable {prog : Program} {w : World} {A : Around} {E : Value → Shared → Prop} {s : Shared} {K : Frag} {x D : Addr} {ox : Obj} {od : Option Obj}
theorem findObj_dataO {C : Addr} {name : Str} {a g : Value} (hc : (clsIn K C).isSome = true) (ha : findIn K (.ref C) name = some (some a)) (hg : specialIn K a "__get__" = some (some g)) (ht : takesIn K a = some true) : findObj K C od name = some (.bind g a) := by
  obtain ⟨cd, hc⟩ := Option.isSome_iff_exists.mp hc
  unfold findObj
  rw [hc, Option.bind_some, ha, Option.bind_some]
  simp [hg, ht]
theorem kin_classX {Q : Option Value → Shared → Prop} (C : L2.ExcC K D) (X : K.In s.heap) (I : InstAt s.heap x ox D od) (h : Q (some (.ref D)) { s with toks := s.toks + 1 }) : wpAny (model prog w) A (getAttr? (.ref x) "__class__") Q E s := by
  have hf : findObj K D od "__class__" = some (.bind (.builtin "getset_descriptor.__get__") (.builtin "object.__class__")) := findObj_dataO (by obtain ⟨cd, hc, _⟩ := any_some C.hd; rw [hc]; rfl) C.ha C.hn C.ht
  obtain ⟨hp, g, d, t, os⟩ := s
  have L0 := I.type (M := model prog w)
  have L1 := looks_findIn (M := model prog w) X C.hg
  have L2 := looks_findIn (M := model prog w) X C.hk
  have L3 := looks_find (M := model prog w) X I hf
  have sub : Looks (model prog w) hp (isInstance (.ref x) (.type "BaseException")) true := L0.andThen (looks_subIn X C.hs)
  have hx0 : (false && onTheHeap (Value.builtin "BaseException.__getattribute__")) = false := rfl
  have hx2 : (Value.builtin "BaseException.__getattribute__" == Value.builtin "object.__getattribute__") = false := by decide +kernel
  have hx1 : (onTheHeap (Value.ref D) && Value.builtin "BaseException.__getattribute__" == Value.builtin "object.__getattribute__") = false := by rw [hx2]; rfl
  unfold getAttr? getAttrBy? getAttrBy
  refine wpAny_bind (wpAny_mkText (wpAny_bind (wpAny_attempt (wpAny_holding (wpAny_bind (L0.at (wpAny_bind (L1.at ?_))))))))
  show wpAny _ _ (if (onTheHeap (Value.ref D) && Value.builtin "BaseException.__getattribute__" == Value.builtin "object.__getattribute__") = true then _ else _) _ _ _
  rw [hx1, if_neg Bool.false_ne_true]
  unfold getAttrByItsOwn hookBefore
  refine wpAny_bind ?_
  rw [if_pos (show onTheHeap (Value.ref D) = true from rfl)]
  refine L2.at ?_
  refine wpAny_bind (wpAny_attempt (wpAny_holding ?_))
  unfold callGetattribute
  rw [hx0, if_neg Bool.false_ne_true]
  unfold boundAndCalled
  rw [PySem.F.excAttr_ValueError.ga.bind (.ref x)]
  refine wpAny_bind (wpAny_pure ?_)
  show wpAny _ _ (call (.builtin "BaseException.__getattribute__") [.ref x, .str "__class__" t]) _ _ _
  refine wpAny_call (codeAny_call_builtin PySem.F.excAttr_ValueError.ga.plain PySem.F.entry_bexc_ga ?_)
  refine @check_slot (model prog w) _ _ ⟨hp, g, d, t + 1, os⟩ "BaseException.__getattribute__" "BaseException" "__getattribute__" (.ref x) [.str "__class__" t] [] _ (by decide +kernel) (by decide +kernel) sub (PySem.F.args_bexc_ga (.ref x) (.str "__class__" t)) ?_
  unfold Builtin.«object.__getattribute__»
  refine wpAny_bind (wpAny_of_eq (a := ((Value.ref x : Value), [Value.str "__class__" t])) (by first | rfl | (simp only [slotArgs]; rfl)) ?_)
  refine wpAny_bind (wpAny_pure (wpAny_bind (L0.at (wpAny_bind (L3.at ?_)))))
  show wpAny _ _ (holding [Value.builtin "object.__class__"] (call (.builtin "getset_descriptor.__get__") [.builtin "object.__class__", .ref x, .ref D]) >>= ret) _ _ _
  refine wpAny_bind (wpAny_holding (wpAny_call (class_get (s := ⟨hp, g, d, t + 1, os⟩) (ox := ox) (od := od) X I C.hm ?_)))
  refine wpAny_pure ?_
  show wpAny _ _ (handedOut (.ref D)) _ _ _
  rw [handedOut_of (v := .ref D) rfl]
  first
    | exact wpAny_pure (wpAny_pure h)
    | exact wpAny_pure h
    | exact wpAny_pure (wpAny_bind (wpAny_pure (wpAny_pure h)))
theorem kitx_X (C : L2.ExcC K D) : KitX K (.ref x) (.ref D) (fun h => InstAt h x ox D od) where
  ty := fun _ _ _ I => I.type
  it := fun _ _ X _ => by
    obtain ⟨cdD, hcD, _⟩ := any_some C.hd
    unfold clsIn at hcD
    split at hcD
    · rename_i c' d' cd' sl' ho
      intro A' Q' E' s' k q
      unfold isType loadHead
      exact wpAny_bind (wpAny_loadPart (k _ _ (X _ _ ho)) (wpAny_pure q))
    · cases hcD
  ne := fun h tp dd its n sl X htp => by
    obtain ⟨cdD, hcD, _⟩ := any_some C.hd
    refine Bool.eq_false_iff.mpr fun q => ?_
    have e : D = tp := Value.ref.inj (beq_iff_eq.mp q)
    subst e
    unfold clsIn at hcD
    split at hcD
    · rename_i c' d' cd' sl' ho
      have z := (X _ _ ho).symm.trans htp
      cases z
    · cases hcD
  ca := fun X I k => kin_classX C X I k
end
end PySem.W
namespace Mir
open PySem L2
end Mir

namespace Mir
open PySem L2
end Mir

namespace Mir
open PySem L2
theorem XRep.nxt {K : PySem.W.Frag} {io io1 : Io} {F F1 H H1 : Hp} {x : XD} {d : Option Addr} (n : Nxt io F H io1 F1 H1) (h : XRep K F H x d) : XRep K F1 H1 x d := by
  cases x with
  | none => exact h
  | some q =>
    obtain ⟨ns, xs⟩ := q
    obtain ⟨a, gs, e, ha, hn, r⟩ := h
    exact ⟨a, gs, e, n.fr _ _ ha, hn, RepL.mono n.fr r⟩
abbrev E0 : XK := fun _ _ _ => False
structure SX (K : PySem.W.Frag) (i : Nat) (a : Addr) (d : Option Addr) (x : XD) (F H : Hp) (σ : L2.St) : Prop where
  sl : σ[i]? = some (some (.ref a))
  xr : XRep K F H x d
theorem SX.nxt {K : PySem.W.Frag} {i : Nat} {a : Addr} {d : Option Addr} {x : XD} {io io1 : Io} {F F1 H H1 : Hp} {σ : L2.St} (s : SX K i a d x F H σ) (n : Nxt io F H io1 F1 H1) : SX K i a d x F1 H1 σ := ⟨s.sl, s.xr.nxt n⟩
section
variable (X : Cx) (i : Nat)
def OEX (e : Expr) (m : Str → XD → ME) : Prop := ∀ (a : Addr) (oe : Obj) (c : Str) (d : Option Addr) (pn : List (Addr × Obj)), Zc (.ref (He.ga X.K c)) d oe → (∃ vs, oe.data = .fields vs) →
  ∃ t, PE (X.suite a ((a, oe) :: pn)) e t ∧ ∀ (x : XD) (ρ : En) (S : Sto) (io : Io) (F : Hp) (σ : L2.St) (H : Hp) (Q : VK), Sta X.K io F S H → Mir.Env X.K io F ρ σ → SX X.K i a d x F H σ → RG X.K (RepA X.K) (m c x ρ S) io F H Q E0 → t σ H Q
end
section
variable {X : Cx} {i : Nat} {e a b cc : Expr} {es : List Expr} {m ma mb : Str → XD → ME} {mt mu : Str → XD → MT} {mas : Str → XD → MA} {pos p : Pos}
end
end Mir

namespace Mir
open PySem PySem.Spec PyProof.Rows LamX
section
variable {X : L2.Cx} {pins : List (Addr × Obj)} {σ : L2.St} {H : L2.Hp} {s : Shared}
inductive TabStep (H : L2.Hp) (P : Addr) (ps : Array Value) (q : Str) (c' : Addr) : L2.Hp → Prop
  | hit (h : H c' = some (CodeO c' q)) (pos : Pos) (e : codeAmong pos ps.toList = some (.ref c')) : TabStep H P ps q c' H
  | new (more : Array Value) (h : H c' = none) (t : TriplesOk (ps ++ more).toList) (a : ∀ (p : Pos) (cv : Value), codeAmong p (ps ++ more).toList = some cv → codeAmong p ps.toList = some cv ∨ cv = .ref c') : TabStep H P ps q c' (L2.upd (L2.upd H P (.tbl (ps ++ more))) c' (CodeO c' q))
end
open L2 in
theorem Sta.tab {K : PySem.W.Frag} {io : Io} {F H H1 : L2.Hp} {S : Sto} {k : Nat} {x : Str} {c' : Addr} {q : Str} {ps : Array Value} (st : Sta K io F S H) (hk : S[k]? = some (.tbl x q)) (hP0 : H (lamT K x) = some (.tbl ps)) (h0 : TabStep H (lamT K x) ps q c' H1) :
    ∃ F1, Nxt io F H io F1 H1 ∧ Sta K io F1 S H1 ∧ F1 c' = some (CodeO c' q) := by
  obtain ⟨P, eP⟩ : ∃ P, P = lamT K x := ⟨_, rfl⟩
  have hP : H P = some (.tbl ps) := by rw [eP]; exact hP0
  have h : TabStep H P ps q c' H1 := by rw [eP]; exact h0
  obtain ⟨h1, h2, ps', h3, h4, h5⟩ := st.cel k _ hk
  rw [← eP] at h1 h2 h3
  rw [hP] at h3
  cases h3
  cases h with
  | hit hc pos e =>
    obtain ⟨c, e1, e2⟩ := h5 pos _ e
    cases e1
    exact ⟨F, Nxt.refl, st, e2⟩
  | new more hc ht ha =>
    obtain ⟨s1, n1⟩ := st.froze (o := CodeO c' q) hc
    have hne : P ≠ c' := fun z => by rw [z, hc] at hP; cases hP
    have hF1 : upd F c' (CodeO c' q) P = none := by rw [upd_ne hne]; exact h2
    have key : CellAt K io (upd F c' (CodeO c' q)) (upd (upd H c' (CodeO c' q)) P (.tbl (ps ++ more))) k (.tbl x q) := by
      show io[k]? = some (some (lamT K x)) ∧ _ ∧ _
      rw [← eP]
      refine ⟨h1, hF1, ps ++ more, upd_same, ht, fun p cv e => ?_⟩
      rcases ha p cv e with z | z
      · obtain ⟨c, e1, e2⟩ := h5 p cv z
        exact ⟨c, e1, n1.fr _ _ e2⟩
      · exact ⟨c', z, upd_same⟩
    have hH : upd (upd H c' (CodeO c' q)) P (.tbl (ps ++ more)) = upd (upd H P (.tbl (ps ++ more))) c' (CodeO c' q) := by
      funext b
      by_cases q1 : b = P
      · subst q1
        rw [upd_same, upd_ne hne, upd_same]
      · rw [upd_ne q1]
        by_cases q2 : b = c'
        · subst q2
          rw [upd_same, upd_same]
        · rw [upd_ne q2, upd_ne q2, upd_ne q1]
    obtain ⟨s2, n2⟩ := s1.write h1 hF1 key
    rw [hH] at s2 n2
    rw [show S.set k (.tbl x q) = S from List.ext_getElem? fun j => by
      by_cases hj : j = k
      · subst hj
        rw [List.getElem?_set_self (List.getElem?_eq_some_iff.mp hk).1, hk]
      · rw [List.getElem?_set_ne (Ne.symm hj)]] at s2
    exact ⟨_, n1.trans n2, s2, upd_same⟩
end Mir

namespace Mir
open PySem PySem.Spec PyProof.Rows LamX
section
variable {X : L2.Cx} {pins : List (Addr × Obj)} {σ : L2.St} {H : L2.Hp} {s : Shared}
end
end Mir
namespace Mir
open PySem L2
end Mir

namespace Mir
open PySem L2
theorem end_rs {K : PySem.W.Frag} {io : Io} {F H : Hp} {S : Sto} {r : RF} {Q : VK} {E : XK} (st : Sta K io F S H) (h : RG K (RepA K) (endF S.length r) io F H Q E) : RS K r io F H { nx := fun _ H' => Q .non H', rt := Q } (fun c d _ H' => E c d H') := by
  cases r with
  | bad => exact h.elim
  | ok fl S1 =>
    cases fl with
    | nx ρ => exact fun io1 F1 H1 σ1 nx s1 en1 => h (io1.take S.length) F1 H1 .non (nx.cut st.len) (s1.cut _) rfl
    | rt d => exact fun io1 F1 H1 v nx s1 r1 => ret_ok st.len nx s1 r1 h
    | bk ρ => exact h.elim
    | ct ρ => exact h.elim
    | xc ρ c x => exact fun io1 F1 H1 d σ1 nx s1 en1 xr => h (io1.take S.length) F1 H1 d (nx.cut st.len) (s1.cut _) xr
end Mir

namespace Mir
open PySem L2
end Mir

namespace Mir
open PySem L2
end Mir

namespace Mir
open PySem L2
structure ExK (K : PySem.W.Frag) (c : Str) : Prop where
  oex : OexG K (He.ga K c)
  xf : XfC K (He.ga K c)
  ex : ExcC K (He.ga K c)
theorem oexB_ok {K : PySem.W.Frag} {C : Addr} (h : oexB K C = true) : OexG K C := by
  unfold oexB at h
  obtain ⟨h1, h⟩ := He.ba h
  obtain ⟨h2, h⟩ := He.ba h
  obtain ⟨h3, h⟩ := He.ba h
  obtain ⟨h4, h⟩ := He.ba h
  obtain ⟨h5, h6⟩ := He.ba h
  refine ⟨?_, ?_, He.eqO_ok h3, of_decide_eq_true h4, of_decide_eq_true h5, h6⟩
  · rcases Bool.or_eq_true_iff.mp h1 with q | q
    · obtain ⟨a, b⟩ := He.ba q; exact ⟨_, _, exb_V, a, b⟩
    · rcases Bool.or_eq_true_iff.mp q with q | q
      · obtain ⟨a, b⟩ := He.ba q; exact ⟨_, _, exb_L, a, b⟩
      · obtain ⟨a, b⟩ := He.ba q; exact ⟨_, _, exb_A, a, b⟩
  · cases e : PySem.W.clsIn K C with
    | none => rw [e] at h2; cases h2
    | some cd => rw [e] at h2; exact ⟨cd, rfl, h2⟩
theorem excB_ok {K : PySem.W.Frag} {D : Addr} (h : excB K D = true) : ExcC K D := by
  unfold excB at h
  obtain ⟨h1, h⟩ := He.ba h
  obtain ⟨h2, h⟩ := He.ba h
  obtain ⟨h3, h⟩ := He.ba h
  obtain ⟨h4, h5⟩ := He.ba h
  have X := xfB_ok h1
  exact ⟨X.ga, X.gg, X.exC, X.hdC, He.eqO_ok h2, He.eqO_ok h3, of_decide_eq_true h4, of_decide_eq_true h5⟩
theorem exkB_ok {K : PySem.W.Frag} {c : Str} (h : exkB K c = true) : ExK K c := by
  obtain ⟨h1, h⟩ := He.ba h
  obtain ⟨h2, h3⟩ := He.ba h
  exact ⟨oexB_ok h1, xfB_ok h2, excB_ok h3⟩
structure ExI (K : PySem.W.Frag) (c : Str) : Prop where
  ini : PySem.W.findIn K (.ref (He.ga K c)) "__init__" = some (some (.ref (He.ma K (He.ga K c) "__init__")))
  ty : PySem.W.typeIn K (.ref (He.ma K (He.ga K c) "__init__")) = some (.type "function")
theorem exiB_ok {K : PySem.W.Frag} {c : Str} (h : exiB K c = true) : ExI K c := by
  obtain ⟨h1, h2⟩ := He.ba h
  exact ⟨He.eqO_ok h1, of_decide_eq_true h2⟩
abbrev ExN (K : PySem.W.Frag) (c f : Str) : Prop := PySem.W.findIn K (.ref (He.ga K c)) f = some none
theorem exnB_ok {K : PySem.W.Frag} {c f : Str} (h : exnB K c f = true) : ExN K c f := He.eqO_ok h
end Mir

namespace Mir
open PySem PySem.Spec L2
section
variable {P : Program} {w : World} {K : PySem.W.Frag} {mg : Str → Option Value} {base : Heap} {x qual : Str} {params : Arguments} {body : List Stmt} {scope : Scope} {dvs : List V} {kws : List (Str × V)} {f : Addr} {fd : FuncData} {N ps : List Str} {k nl : Nat} {m : MS}
theorem body_ok {X : Cx} {n : Nat} {vs : List V} {H : Hp} {Q : VK} {E : XK} (hn : X.N.length = n + nl) (hN : X.N = N) (hb : OSs X (fun c d _ H' => E c d H') body m) (h : spM X.K (mkF n nl m) vs H Q E) :
    ∃ t, PSs X body t ∧ t { nx := fun _ H' => Q .non H', rt := Q } (L2.start N vs) H := by
  obtain ⟨t, pt, ht⟩ := hb
  refine ⟨t, pt, ?_⟩
  have hl := spM_len h
  obtain ⟨io, FF, S, ds, st, r, h⟩ := h
  have hd : ds.length = n := by rw [← r.length]; exact hl
  unfold mkF at h
  rw [if_pos hd] at h
  have e0 := Env.start (K := X.K) (io := io) (F := FF) nl r
  have hst : L2.start N vs = vs.map some ++ List.replicate nl none := by
    unfold L2.start
    rw [← hN, hn, hl]
    congr 2
    omega
  rw [hst]
  exact ht _ S io FF _ H _ st e0 (end_rs st h)
end
structure Sub (X : Cx) (A : Around) : Prop where
  fr : A.frames = X.A.frames
  dp : A.depth + 3 * 1 + 5 < recursionLimit
  un : A.units + 16 * 1 + 200 < cLine
section
variable {X : Cx} {A : Around} {c : Str} {m : MF} {pins : List (Addr × Obj)} {σ : St} {H : Hp} {s : Shared} {b dx : Addr} {fs : List (Str × V)} {Q : Str → Shared → Prop} {Q' : Str → Hp → Prop} {E : Value → Shared → Prop} {n : Nat}
end
section
variable {X : Cx} {A : Around} {pins : List (Addr × Obj)} {σ : St} {H : Hp} {s : Shared} {a : Addr} {v : V} {Q : Value → Shared → Prop} {Q' : Str → Hp → Prop} {E : Value → Shared → Prop}
end
section
variable {X : Cx} {tb : List (Str × MF)}
end
structure RoomR (A : Around) : Prop where
  dp : A.depth + 3 * 1 + 8 < recursionLimit
  un : A.units + 16 * 1 + 211 < cLine
  gd : A.guards = some []
theorem RoomG.rr {k : Nat} {A : Around} (h : RoomG k A) (hk : 2 ≤ k) : RoomR A := ⟨by have := h.r.dp; omega, by have := h.r.un; omega, h.gd⟩
theorem txL_strOf (t : Str) : strOf (txL t) = t := strOf_toList t
section
variable {X : Cx} {tb : List (Str × MF)}
end
section
variable {X : Cx} {W : WX} {tb : List (Str × MF)} {a : Expr} {ma : ME} {pos p : Pos} {k i : Nat} {mx : Str → XD → ME}
end
end Mir

namespace Mir
open PySem L2
section
variable {K : PySem.W.Frag}
end
section
variable {X : Cx} {W : WX} {a o : Expr} {ma mo : ME} {pos p apos : Pos}
end
end Mir

namespace Mir
open PySem L2
section
variable {X : Cx} {W : WX} {a b : Expr} {ma mb : ME} {pos : Pos}
end
end Mir

namespace Mir
open PySem L2
section
variable {X : Cx} {W : WX} {a b : Expr} {ma mb : ME} {x x2 : Str} {pos : Pos} {params params2 : Arguments} {ps ps2 : List Str} {k k2 j : Nat} {m m2 : MF}
end
end Mir

namespace Mir
open PySem PySem.Spec PyProof.Rows LamX
open L2 (Cx Hp Inv V RelV)
section
variable {X : Cx} {pins : List (Addr × Obj)} {σ : L2.St} {H HZ : Hp} {s s1 : Shared}
end
end Mir

namespace Mir
open PySem L2
end Mir

namespace Mir
open PySem L2
section
variable {K : PySem.W.Frag} {F F' H H' : Hp} {Ok Ok' : Addr → Prop} {m m' : Nat}
end
section
variable {K : PySem.W.Frag} {io io1 : Io} {F F1 H H1 : Hp} {S : Sto}
end
end Mir

namespace Mir
open PySem L2
theorem Nxt.fresh {K : PySem.W.Frag} {io io1 : Io} {F F1 H H1 : Hp} {q : Addr} (n : Nxt io F H io1 F1 H1) (h : H1 q = none) : H q = none := n.stay q h
section
variable {X : Cx} {W : WX} {x y : Str} {i j k0 : Nat} {iter ke : Expr} {it : MI} {key : ME} {rest : List Stmt} {mrest : MS} {p1 p2 p3 p4 p5 p6 p7 p8 p9 p10 p11 p12 p13 : Pos}
end
end Mir

namespace Mir
open PySem L2
end Mir

namespace Mir
open PySem PySem.Spec PyProof.Rows LamX
open L2 (Cx Hp Inv V RelV)
section
variable {X : Cx} {pins : List (Addr × Obj)} {σ : L2.St} {H HZ : Hp} {s s1 : Shared}
end
end Mir

namespace Mir
open PySem L2
structure LamP where
  f : Addr
  c : Addr
  jx : Nat
  by_ : Str
  q : Str
  w : Vl → Sto → Res Vl
section
variable {X : Cx} {W : WX} {x q mk p : Str} {c : Addr} {k kG jx : Nat} {G : LamP → MF} {gparams params : Arguments} {ps : List Str} {e1 e2 body : Expr} {scope : Scope} {p1 lpos pos : Pos} {m1 m2 mb : ME}
end
end Mir

namespace Mir
open PySem L2
section
variable {X : Cx} {W : WX} {e : Expr} {es : List Expr} {mas : MA} {x : Str} {p pos : Pos} {params : Arguments} {ps : List Str} {k j : Nat} {m : MF}
end
end Mir

namespace Mir
open PySem L2
structure FunDD (K : PySem.W.Frag) (ds : List P) (x qual : Str) (params : Arguments) (body : List Stmt) (scope : Scope) (f : Addr) (fd : FuncData) : Prop where
  dv : ∃ dvs, FunD K x qual params body scope dvs [] f fd
  par : ParD K fd params ds
theorem DefMD.funD {K : PySem.W.Frag} {q : DefMD} (e : fnM K (q.d.ad K) = q.d.val) (c : q.ok K = true) : ∃ fd, FunDD K q.ds q.d.name q.d.qual q.d.params q.d.body q.d.scope (q.d.ad K) fd := by
  obtain ⟨d, ds⟩ := q
  unfold DefMD.ok at c
  rw [Bool.and_eq_true] at c
  obtain ⟨hk, c⟩ := c
  rw [Bool.and_eq_true] at c
  obtain ⟨c, hne⟩ := c
  unfold fnM at e
  dsimp only at c e hk hne ⊢
  cases q : K.lookup (d.ad K) with
  | none => rw [q] at c; cases c
  | some o =>
    obtain ⟨oc, od, dt, osl⟩ := o
    rw [q] at c e
    cases dt with
    | func fd =>
      obtain ⟨n1, n2, n3, n4, n5, n6, n7, n8, n9, n10, n11, n12, n13, n14, n15⟩ := fd
      have e2 : (some (n1, n2, n3, n4, n5, n6, n7, n15) : He.FnW) = some (d.name, d.qual, d.params, .stmts d.body, d.scope, mainGlobals, [], builtinsNs) := e
      simp only [Option.some.injEq, Prod.mk.injEq] at e2
      obtain ⟨h1, h2, h3, h4, h5, h6, h7, h9⟩ := e2
      subst h1 h2 h3 h4 h5 h6 h7 h9
      dsimp only at c
      rw [Bool.and_eq_true] at c
      obtain ⟨c1, c2⟩ := c
      unfold dfB at c2
      split at c2
      · rename_i T
        split at c2
        · rename_i cT dT its nT sT hT
          obtain ⟨vs, v1, v2⟩ := repKs_ok c2
          have hv : vs ≠ [] := by
            have l1 := (v2 (fun _ => none)).length
            intro z
            rw [z] at l1
            cases ds with
            | nil => cases hne
            | cons _ _ => simp at l1
          refine ⟨_, ⟨vs, ⟨oc, od, _, _, _, _, _, _, _, osl, rfl, q, c1, .inr ⟨hv, T, _, its.toList, nT, rfl, hT, rfl, v1⟩, .inl rfl⟩, hk⟩, _, _, _, _, T, _, its.toList, nT, _, _, _, _, _, _, vs, rfl, hT, rfl, v1, v2⟩
        · cases c2
      · cases c2
    | _ => cases c
section
variable {X : Cx} {W : WX} {e : Expr} {es : List Expr} {mas mks : MA} {x : Str} {p pos : Pos} {params : Arguments} {ps ks : List Str} {ds : List P} {k j n : Nat} {m : MF} {kws : List Keyword} {pm : List Nat}
end
end Mir

namespace Mir
open PySem L2
section
variable {X : Cx} {W : WX} {pos : Pos} {keys : List (Option Expr)} {values : List Expr}
end
end Mir

namespace Mir
open PySem L2
def pIndexD : P → List P → Option P
  | .lst xs, [y] => if y.dat 60 && (P.lst xs).dat 60 then (idxP y xs 0).map fun (i : Nat) => .int i else none
  | _, _ => none
theorem toDL_get : ∀ {xs : List P} {j : Nat}, (toDL xs)[j]? = xs[j]?.map P.toD
  | [], 0 => rfl
  | [], _ + 1 => rfl
  | _ :: _, 0 => rfl
  | _ :: xs, j + 1 => toDL_get (xs := xs) (j := j)
theorem datL_mem {x : P} {n : Nat} : ∀ {xs : List P}, datL xs n = true → x ∈ xs → x.dat n = true
  | [], _, h => by cases h
  | y :: ys, e, h => by
    have e : (y.dat n && datL ys n) = true := e
    rw [Bool.and_eq_true] at e
    rcases List.mem_cons.mp h with z | z
    · rw [z]; exact e.1
    · exact datL_mem e.2 z
theorem ok_indexD {K : PySem.W.Frag} : CallOk K (rM (rIndexD K)) fun xs => match xs with
    | x :: r => pIndexD x r
    | [] => none := by
  intro io F S H xs vs z Q st rx e k
  match xs, e with
  | [.lst xs, y], e =>
    obtain ⟨v, w, rfl, r1, r2⟩ := rx.two
    have e : (if y.dat 60 && (P.lst xs).dat 60 then (idxP y xs 0).map fun (i : Nat) => P.int i else none) = some z := e
    split at e
    · rename_i hf
      rw [Bool.and_eq_true] at hf
      have hx : datL xs 59 = true := hf.2
      cases q : idxP y xs 0 with
      | none => rw [q] at e; cases e
      | some n =>
        rw [q] at e
        cases e
        obtain ⟨j, x, h1, h2, h3, h4⟩ := idxP_some q
        have h1 : n = j := by omega
        subst h1
        have r1' := r1.now st.sub
        obtain ⟨a, vs, rfl, _⟩ := r1
        have dv : ∀ {m : Nat} {u : P}, xs[m]? = some u → PyData.eqv u.toD y.toD = u.eqv y := fun {m u} hu => P.eqD (datL_mem hx (List.mem_of_getElem? hu)) hf.1
        refine ⟨a, w, y.toD, toDL xs, n, x.toD, rfl, rfl, Rep.dp (x := .lst xs) hf.2 r1', Rep.dp hf.1 (r2.now st.sub), P.shp (x := .lst xs) (by decide) hf.2, P.shp (by decide) hf.1, by rw [toDL_get, h2]; rfl, by rw [dv h2]; exact h3, fun m z' hm hz' => ?_, k F H _ Nxt.refl st rfl⟩
        rw [toDL_get] at hz'
        cases hu : xs[m]? with
        | none => rw [hu] at hz'; cases hz'
        | some u =>
          rw [hu] at hz'
          cases hz'
          rw [dv hu]
          exact h4 m u hm hu
    · cases e
section
variable {X : Cx} {W : WX} {a o : Expr} {ma mo : ME} {apos pos : Pos}
theorem oe_indexD {k : Nat} (hr : Room k X.A) (ho : OE X W o mo) (ha : OE X W a ma) (hbase : attributeBase o "index" X.env (eval o X.env) = eval o X.env := by rfl) (hs : starEach [a] X.env = (false, eval a X.env) :: starEach [] X.env := by rfl) (hline : (apos.endLine == pos.line) = true := by rfl)
    (hfew : ((backTo pos (starEach [a] X.env)).all (fun x => !x.1) && (backToKw pos (keywordEach [] X.env)).all (fun x => x.1.isSome) && decide (([a] : List Expr).length + ([] : List Keyword).length + (if ([] : List Keyword).isEmpty then 0 else 1) < 30)) = true := by rfl) :
    OE X W (.Call (.Attribute o "index" apos) [a] [] pos) (eMthT "list" pIndexD mo (aCons ma aNil)) := oe_bm PySem.F.plainAttrs_list PySem.F.slot_list_index PySem.F.type_list_index (mt_indexD (room65 hr)) ok_indexD ho (oa_cons ha oa_nil hs) hbase hfew hline hs rfl
end
end Mir

namespace Mir
open PySem PySem.Spec PyProof.Rows L2
section
variable {K : PySem.W.Frag} {io io1 : Io} {F F1 H H1 : Hp} {S S1 : Sto} {Q : VK} {E : XK}
variable {X : Cx}
end
section
variable {X : Cx} {W : WX} {a o : Expr} {ma mo : ME} {apos pos p : Pos}
end
section
variable {K : PySem.W.Frag} {io io1 : Io} {F F1 H H1 : Hp} {S S1 : Sto} {Q : VK} {E : XK}
end
section
variable {P : Program} {w : World} {K : PySem.W.Frag} {mg : Str → Option Value} {base : Heap} {x qual : Str} {params : Arguments} {body : List Stmt} {scope : Scope} {dvs : List V} {kws : List (Str × V)} {f : Addr} {fd : FuncData} {N ps : List Str} {k nl : Nat} {m : MS}
end
end Mir

namespace HT
open PySem PySem.Spec PyProof.Rows
end HT
namespace Mir
open PySem PySem.Spec PyProof.Rows L2
section
variable {X : Cx}
end
section
variable {X : Cx} {W : WX} {e : Expr} {me : ME}
end
end Mir

namespace IdE
open PySem PySem.Spec PyProof.Rows PySem.SeqAt
section
variable {M : Model} {prog : Program} {w : World} {A : Around} {E : Value → Shared → Prop} {s : Shared} {K : PySem.W.Frag} {x y C D f : Addr} {ox oy : Obj} {od od' : Option Obj}
end
end IdE

namespace Mir
open PySem PySem.Spec PyProof.Rows L2
section
variable {X : Cx} {W : WX} {a b : Expr} {ma mb : ME} {x y : Str} {pos : Pos} {params : Arguments} {ps : List Str} {k j : Nat} {m : MF}
end
end Mir

namespace Rw
open PySem PySem.Spec PyProof.Rows L2 Mir
section
variable {X : Cx} {pins : List (Addr × Obj)} {σ : L2.St} {H : Hp} {s : Shared}
end
section
variable {X : Cx}
end
end Rw

namespace Rw
open PySem PySem.Spec PyProof.Rows L2 Mir
section
variable {X : Cx}
end
end Rw
namespace Mir
open PySem L2
section
variable {X : Cx} {W : WX} {iter : Expr} {it : MI} {a b k : Str} {ia ib ik n0 : Nat} {p1 p2 p3 p4 p5 p6 tpos apos cpos pos fpos : Pos}
end
section
variable {X : Cx} {W : WX} {es : List Expr} {mas : MA} {rest : List Stmt} {mrest : MS}
end
end Mir

namespace Rw
open PySem PySem.Spec PyProof.Rows
section
variable {M : Model} {A : Around} {E : Value → Shared → Prop} {s₀ s : Shared} {m cm : Str → Option Value} {env : PySem.Env}
end
end Rw
namespace Mir
open PySem L2
section
variable {P : Program} {w : World} {K : PySem.W.Frag} {mg : Str → Option Value} {base : Heap} {x qual : Str} {params : Arguments} {body : List Stmt} {scope : Scope} {dvs : List V} {kws : List (Str × V)} {f : Addr} {fd : FuncData} {N ps : List Str} {k nl : Nat} {m : MS}
end
section
variable {X : Cx} {W : WX} {es : List Expr} {mas : MA} {rest : List Stmt} {mrest : MS}
end
end Mir

namespace Mir
open PySem L2
abbrev MD := List Vl → Sto → Option (List P × List P × Sto)
section
variable {X : Cx} {W : WX} {x y : Str} {i j k0 : Nat} {iter ke : Expr} {it : MI} {key : ME} {p1 p2 p3 p4 p5 p6 p8 p10 p12 p13 p14 p15 : Pos}
end
section
variable {P : Program} {w : World} {K : PySem.W.Frag} {mg : Str → Option Value} {base : Heap} {x qual : Str} {params : Arguments} {body : List Stmt} {scope : Scope} {dvs : List V} {kws : List (Str × V)} {f : Addr} {fd : FuncData} {N ps : List Str} {k nl i j : Nat} {it : MI} {key : ME}
end
section
variable {X : Cx} {W : WX} {e ke : Expr} {es : List Expr} {mas : MA} {key : ME} {x : Str} {p pos pos2 apos mpos p0 : Pos} {params : Arguments} {ps : List Str} {k j : Nat} {m : MD}
end
end Mir

namespace Sx
open PySem PySem.W PySem.Calls PyProof.Rows PySem.SeqAt
section
variable {A : Around} {s : Shared}
end
section
variable {prog : Program} {w : World} {A : Around} {E : Value → Shared → Prop} {s : Shared}
end
section
variable {M : Model} {A : Around} {E : Value → Shared → Prop} {s : Shared}
end
section
variable {prog : Program} {w : World} {A : Around} {s : Shared}
end
end Sx
namespace Mir
open PySem L2
section
variable {X : Cx} {k : Nat}
end
section
variable {K : PySem.W.Frag}
end
section
variable {X : Cx} {W : WX} {a : Expr} {ma : ME} {pos p : Pos} {k : Nat}
end
end Mir

namespace Dx
open PySem PySem.Spec PyProof.Rows L2
section
variable {X : Cx}
end
end Dx
namespace Mir
open PySem L2
section
variable {X : Cx} {W : WX} {a b : Expr} {ma mb : ME} {pos : Pos} {k : Nat}
end
end Mir

namespace Mir
open PySem L2
section
variable {K : PySem.W.Frag} {Q : VK} {E : XK}
end
section
variable {X : Cx} {W : WX} {tg iter kx vx : Expr} {it : MI} {g : MG} {ke ve : ME} {js : List Nat} {scope : Scope} {own : List (Str × Nat)} {pos : Pos}
end
section
variable {X : Cx} {W : WX} {o : Expr} {mo : ME} {td : TE} {apos pos p mpos : Pos}
end
end Mir

namespace Mir
open PySem PySem.Spec L2
section
variable (X : Cx) (i : Nat)
end
section
variable {X : Cx} {i : Nat} {s : Stmt} {ss as : List Stmt} {e cc o a b : Expr} {m m2 : Str → XD → MS} {me ma : Str → XD → ME} {mt : Str → XD → MT} {mo : ME} {ms : MS} {pos apos p : Pos}
end
section
variable {X : Cx} {i : Nat} {pos p : Pos}
end
abbrev MSx := Str → XD → Sto → Res Vl
section
variable {P : Program} {w : World} {K : PySem.W.Frag} {mg : Str → Option Value} {base : Heap} {x qual p : Str} {params : Arguments} {body : List Stmt} {scope : Scope} {f : Addr} {fd : FuncData} {N : List Str} {nl : Nat} {m : Str → XD → MS} {mS : MSx}
end
end Mir

namespace Mir
open PySem L2
end Mir

namespace Mir
open PySem L2
section
variable {X : Cx} {pins : List (Addr × Obj)} {σ : L2.St} {H : Hp} {s : Shared}
end
section
variable {X : Cx} {W : WX} {a b c : Expr} {ma mb mc : ME} {pos : Pos}
end
end Mir

namespace Mir
open PySem L2 PySem.Spec PyProof.Rows
section
variable {X : Cx}
end
section
variable {X : Cx} {W : WX} {a b : Expr} {ma mb : ME} {pos : Pos}
end
end Mir

namespace Mir
open PySem L2
section
variable {X : Cx} {W : WX} {e : Expr} {es : List Expr} {mas mks : MA} {x : Str} {p pos : Pos} {ps ks : List Str} {ds : List P} {j n i : Nat} {tb : List (Str × MF)} {kws : List Keyword} {pm : List Nat}
end
end Mir

namespace L2
open PySem PySem.Spec PyProof.Rows
section
variable {P : Program} {w : World} {A : Around} {E : Value → Shared → Prop} {s : Shared}
end
end L2
namespace Mir
open PySem L2 PyProof.Rows
section
variable {X : Cx} {W : WX} {a : Expr} {ma : ME} {pos p pos2 p2 : Pos}
end
end Mir

namespace Mir
open PySem L2
section
variable {X : Cx} {W : WX} {a : Expr} {ma : ME} {pos p : Pos}
end
end Mir

namespace Mir
open PySem PySem.Spec L2 PyProof.Rows
structure XC0 (K : PySem.W.Frag) (c : Str) : Prop where
  cls : ∃ newId bmB, ExB newId bmB ∧ PySem.W.excIn K (He.ga K c) bmB newId = true
  exC : PySem.W.subIn K (.ref (He.ga K c)) (.type "BaseException") = some true
  tyC : PySem.W.typeIn K (.ref (He.ga K c)) = some (.type "type")
  kC : PySem.W.keepIn K (.ref (He.ga K c)) = true
theorem xc0B_ok {K : PySem.W.Frag} {c : Str} (h : xc0B K c = true) : XC0 K c := by
  obtain ⟨h1, h⟩ := He.ba h
  obtain ⟨h4, h⟩ := He.ba h
  obtain ⟨h5, h6⟩ := He.ba h
  refine ⟨?_, of_decide_eq_true h4, of_decide_eq_true h5, h6⟩
  rcases Bool.or_eq_true_iff.mp h1 with q | q
  · exact ⟨_, _, exb_V, q⟩
  · rcases Bool.or_eq_true_iff.mp q with q | q
    · exact ⟨_, _, exb_L, q⟩
    · exact ⟨_, _, exb_A, q⟩
section
variable {X : Cx} {C : Addr} {bmB : List Value} {B newId initId : String}
end
section
variable {X : Cx} {W : WX} {a : Expr} {ma : ME} {pos : Pos}
end
end Mir

namespace Mir
open PySem L2
theorem Nxt.lay {io io1 : Io} {F F1 H H1 : Hp} {p : Addr} (n : Nxt io F H io1 F1 H1) (hp : H p = none) : Nxt io F H (io1 ++ [some p]) F1 H1 := by
  refine ⟨fun k a e => ?_, n.fr, n.out, fun k a e => ?_, n.stay, n.nf⟩
  · have := n.han k a e
    rw [List.getElem?_append_left (List.getElem?_eq_some_iff.mp this).1]
    exact this
  · rw [List.getElem?_append] at e
    split at e
    · exact n.new k a e
    · have e' : a = p := by
        have hk2 : k - io1.length = 0 := by
          have := (List.getElem?_eq_some_iff.mp e).1
          simp at this
          omega
        rw [hk2] at e
        simpa using e.symm
      rw [e']
      exact .inr hp
section
variable {X : Cx} {W : WX} {tg iter kx vx : Expr} {it : MI} {g : MG} {ke ve : ME} {js : List Nat} {scope : Scope} {own : List (Str × Nat)} {pos : Pos}
end
end Mir

namespace Mir
open PySem L2
section
variable {K : PySem.W.Frag} {F F' H H' : Hp} {Ok Ok' : Addr → Prop} {m m' : Nat}
end
section
variable {K : PySem.W.Frag} {io io1 : Io} {F F1 H H1 : Hp} {S : Sto}
end
def dropA (H : Hp) (p : Addr) : Hp := fun a => if a = p then none else H a
theorem Nxt.drop {io : Io} {F H : Hp} {n : Nat} {p : Addr} : Nxt (io.take n) F (dropA H p) (io.take n) F H := by
  refine ⟨fun _ _ h => h, fun _ _ h => h, fun a o h _ => ?_, fun _ _ h => .inl h, fun a h => ?_, fun _ h => .inl h⟩
  · unfold dropA at h
    split at h
    · cases h
    · exact h
  · unfold dropA
    split
    · rfl
    · exact h
end Mir

namespace Mir
open PySem L2
section
variable {X : Cx} {W : WX} {x y : Str} {i j k0 : Nat} {iter ke ve : Expr} {it : MI} {key val : ME} {p4 p5 p6 p7 p8 p9 p11 p12 p13 : Pos}
end
end Mir

namespace Mir
open PySem L2
section
variable {X : Cx} {W : WX} {elt : Expr} {x y : Str} {i j : Nat} {scope : Scope} {own : List (Str × Nat)} {pos p6 p7 : Pos}
end
end Mir

namespace Mir
open PySem L2
section
variable {K : PySem.W.Frag} {io io1 : Io} {F F1 H H1 : Hp} {S S1 : Sto} {Q : VK} {E : XK}
end
section
variable {P : Program} {w : World} {K : PySem.W.Frag} {mg : Str → Option Value} {base : Heap} {x qual : Str} {params : Arguments} {body : List Stmt} {scope : Scope} {dvs : List V} {kws : List (Str × V)} {f : Addr} {fd : FuncData} {N ps : List Str} {k nl : Nat} {m : MS}
end
end Mir

namespace Mir
open PySem L2
section
variable {X : Cx} {W : WX} {a b c : Expr} {ma mb mc : ME} {pos : Pos}
end
end Mir

namespace Mir
open PySem PySem.Spec PyProof.Rows L2 Builtin Builtin.Str
section
variable {X : Cx} {o n : Expr} {to tn : TE} {j0 j1 : Nat} {c0 c1 c2 apos pos p9 : Pos}
end
end Mir

namespace Mir
open PySem L2
section
variable {X : Cx} {W : WX} {st : Stmt} {rest : List Stmt} {m m2 : MS} {e c : Expr} {ma : ME} {mt : MT} {pos : Pos}
end
section
variable {X : Cx} {W : WX} {o n : Expr} {mo mn : ME} {j0 j1 : Nat} {c0 c1 c2 apos pos p9 : Pos}
end
end Mir

namespace Mir
open PySem L2
section
variable {X : Cx} {W : WX} {o a : Expr} {mo ma : ME} {apos pos : Pos}
end
end Mir

namespace Mir
open PySem L2
section
variable {X : Cx} {i k : Nat} {a b : Expr} {mx mb : Str → XD → ME} {pos : Pos}
end
end Mir

namespace Mir
open PySem L2
section
variable {X : Cx} {pins : List (Addr × Obj)} {σ : St} {H : Hp} {s : Shared}
end
def lenR (r : Res Vl) : Res Vl := r.nox.bind fun d S => match d with
  | .p (.int n) => if 0 ≤ n ∧ n < 2 ^ 63 then .ok (.p (.int n)) S else .bad
  | _ => .bad
def lenV (c : Str) (m : MF) (d : Vl) (S : Sto) : Res Vl := if isC c S (nv S d) then lenR (m [d] S) else .bad
section
variable {X : Cx} {W : WX} {a b e o i v : Expr} {ma mb me mo mi mv : ME} {x : Str} {pos p pos' : Pos} {params : Arguments} {ps : List Str} {k j : Nat} {m : MF}
end
end Mir

namespace Mir
open PySem PySem.Spec L2 PySem.Builtin PySem.Builtin.ObjectAttr
section
variable {prog : Program} {w : World} {A : Around} {E : Value → Shared → Prop} {R : Result → Shared → Prop} {hp : Heap} {g : Array GenState} {d : Drawn} {t : Nat} {os : OsState}
theorem osa_oldG {K : PySem.W.Frag} {B : String} {bmB : List Value} {name : Str} {tk : Tok} {v : Value} {x C dx : Addr} {fv : Array Value} {cd : ClassData} {m0 : Str → Option Value} {nl : List Str} (SF : StoreFacts B bmB "object.__setattr__" "object")
    (X : K.In hp) (hx : hp.get? x = some { cls := .ref C, dict := some dx, data := .fields fv }) (hn : hp.Ns1 dx m0) (hw : Within m0 nl) (hl : nl.length ≤ 1000) (ho : PySem.W.excOver K C bmB = true) (hcd : PySem.W.clsIn K C = some cd) (hh : cd.hasDict = true) (ha : PySem.W.findIn K (.ref C) name = some none)
    (hq : ∀ h' tk', (∀ b o, b ≠ dx → hp.get? b = some o → h'.get? b = some o) → h'.Ns1 dx (fun y => if y = name then some v else m0 y) → R (.ok (.ret .none)) ⟨h', g, d, tk', os⟩) :
    codeAny (model prog w) A (.call (.builtin "object.__setattr__") ⟨[.ref x, .str name tk, v], []⟩) R ⟨hp, g, d, t, os⟩ := by
  obtain ⟨od, es, ep, h1, h2, h3, h4, h5⟩ := id hn
  have I : PySem.W.InstAt hp x { cls := .ref C, dict := some dx, data := .fields fv } C (some od) := ⟨hx, rfl, rfl, h1⟩
  have hcls : PySem.W.Looks (model prog w) hp (classData C) cd := PySem.W.looks_clsIn X hcd
  refine PySem.W.osa_openX (s := ⟨hp, g, d, t, os⟩) SF X I ho (r := none) (by unfold PySem.W.takerIn; rw [ha]; rfl) fun b => ?_
  show wpAny _ _ (storeInOwnDict (.ref x) (.ref C) (.str name tk) name v b) _ _ _
  obtain ⟨nm, bs, mro, ns, qn, hd, sn, sb, ab, col, del⟩ := cd
  dsimp only at hh
  subst hh
  unfold storeInOwnDict ownDictForStores
  repeat (first | with_reducible refine PySem.OEX.store_in_old hn hw hl ?_ | with_reducible refine wpAny_loadPart_at hx ?_ | with_reducible refine hcls.at ?_ | wp_step)
  all_goals
    intro h' tk' hn' hs
    exact hq h' tk' (fun b o hb q => (hs.2 b hb).trans q) hn'
end
section
variable {X : Cx} {pins : List (Addr × Obj)} {σ : St} {H : Hp} {s : Shared} {a C dx : Addr} {f : Str} {y : V} {u : Value} {fs : List (Str × V)} {Q : Unit → Shared → Prop} {E : Value → Shared → Prop} {A : Around}
theorem ost_oldG (T : OexG X.K C) (I : Inv X pins σ H s) (e : H a = some (exo a C (some dx))) (ed : H dx = some (exd dx fs)) (hl : fs.length ≤ 900) (hno : PySem.W.findIn X.K (.ref C) f = some none) (ry : RelV y u)
    (h : ∀ s', Inv X pins σ (upd H dx (exd dx ((f, y) :: fs))) s' → Q () s') : wpAny (model X.prog X.w) A (setAttr (.ref a) f u) Q E s := by
  obtain ⟨newId, bmB, ⟨_, ⟨B, SF⟩⟩, _, hov⟩ := T.cls
  obtain ⟨cd, hcl, hdt⟩ := T.hd
  obtain ⟨t1, ho⟩ := exo_at I.hok e
  obtain ⟨mA, hN, hR⟩ := exd_at I.hok ed
  obtain ⟨hp, g, d, t, os⟩ := s
  obtain ⟨od, es, ep, g1, g2, g3, g4, g5⟩ := id hN
  refine PySem.W.set_plain I.kIn (ox := { cls := .ref C, dict := some dx, data := .fields #[.ref t1, .none, .none, .none, .bool false, .none] }) (od := some od) ⟨ho, rfl, rfl, g1⟩ T.sa ?_
  refine osa_oldG SF I.kIn ho hN (within_of hR) (by rw [List.length_map]; omega) hov hcl hdt hno (fun h' tk' k hn => ?_)
  have na : ∀ {b : Addr}, H b = none → b ≠ dx := fun {b} n z => by
    rw [z, ed] at n
    cases n
  have et : ∀ {xs : List V}, exd dx fs ≠ HO.tup xs := fun z => nomatch z
  have ef : ∀ {o : Obj} {v : HO}, exd dx fs ≠ HO.frz o v := fun z => nomatch z
  have eb : ∀ {ps : Array Value}, exd dx fs ≠ HO.tbl ps := fun z => nomatch z
  have eo : ∀ {x : Addr}, exd dx fs ≠ HO.own x := fun z => nomatch z
  have Un1 : Un X.fs [] H (upd H dx (exd dx ((f, y) :: fs))) hp h' := {
    keep := fun b o q n _ _ => k b o (na n) q
    slot := fun b o q n _ _ => ⟨o.slots, k b o (na n) q⟩
    free := fun b o q n _ => by rw [upd_ne (na n)]; exact n
    there := fun b o q _ => by
      by_cases hb : b = dx
      · obtain ⟨o', _, _, z, _⟩ := hn
        exact ⟨o', by rw [hb]; exact z⟩
      · exact ⟨o, k b o hb q⟩
    tups := fun b xs q => by rw [upd_ne (at_ne ed q et)]; exact q
    frzs := fun b o v q => by rw [upd_ne (at_ne ed q ef)]; exact q
    tbls := fun b ps q => ⟨#[], by rw [upd_ne (at_ne ed q eb), q]; simp⟩ }
  refine h _ (I.un (t' := tk') Un1 fun b o q => ?_)
  by_cases hb : b = dx
  · subst hb
    rw [upd_same] at q
    cases q
    exact exd_ok hn (relO_put ry hR)
  · rw [upd_ne hb] at q
    exact (I.hok b o q).stay (fun c v hc z => k c v (by
        rcases hc with hc | hc
        · rw [hc]
          exact hb
        · exact at_ne ed hc eo) z)
      (fun c hc => by rw [upd_ne (at_ne ed hc eo)]; exact hc) (fun c xs hc => by rw [upd_ne (at_ne ed hc et)]; exact hc)
end
def tOs2 (K : PySem.W.Frag) (f : Str) (to te : TE) : TS := fun D σ H => te σ H fun y H1 => to σ H1 fun x H2 => ∃ (a C dx : Addr) (fs : List (Str × V)), x = .ref a ∧ OexG K C ∧ PySem.W.findIn K (.ref C) f = some none ∧
  H2 a = some (exo a C (some dx)) ∧ H2 dx = some (exd dx fs) ∧ fs.length ≤ 900 ∧ D.nx σ (upd H2 dx (exd dx ((f, y) :: fs)))
section
variable {X : Cx} {o e : Expr} {to te : TE} {f : Str} {p' pos : Pos}
theorem ps_os2 (ho : PE X o to) (he : PE X e te) (hs : swapsWith e (some (.Attribute o f p')) pos.line X.env = pure false := by rfl) : PS X (.Assign [.Attribute o f p'] e pos) (tOs2 X.K f to te) := by
  refine ⟨fun pins s σ H D I h => ?_⟩
  refine plainObj_wpAny_Assign_Attribute (thn (he.run pins s σ H _ I h) fun v s1 ⟨y, H1, I1, r1, q1⟩ => thn (ho.run pins s1 σ H1 _ I1 q1) fun u s2 ⟨x, H2, I2, r2, a, C, dx, fs, ex, T, hno, ea, ed, hl, q⟩ => ?_) hs
  subst ex
  obtain rfl : u = Value.ref a := r2
  exact ost_oldG T I2 ea ed hl hno r1 fun s' J => ⟨σ, _, J, q⟩
end
def spXI2 (C : Addr) (f g : Str) : Sp := fun vs H Q _ => ∃ a y z, vs = [.ref a, y, z] ∧ H a = some (exo a C none) ∧ ∀ dx, H dx = none → dx ≠ a → Q .non (upd (upd (upd H dx (exd dx [(f, y)])) a (exo a C (some dx))) dx (exd dx [(g, z), (f, y)]))
theorem fn_xinit2 {P : Program} {w : World} {K : PySem.W.Frag} {mg : Str → Option Value} {base : Heap} {x qual sn yn zn : Str} {params : Arguments} {body : List Stmt} {scope : Scope} {fI C : Addr} {fd : FuncData} {k : Nat} {f g : Str} {p1 p2 p3 pos q1 q2 q3 pos2 : Pos}
    (F : FunD K x qual params body scope [] [] fI fd) (sc : FnScope [sn, yn, zn] [sn, yn, zn] scope) (T : OexG K C) (hno : PySem.W.findIn K (.ref C) f = some none) (hno2 : PySem.W.findIn K (.ref C) g = some none) (hb : body = [.Assign [.Attribute (.Name sn p1) f p2] (.Name yn p3) pos, .Assign [.Attribute (.Name sn q1) g q2] (.Name zn q3) pos2])
    (v1 : Vis scope sn) (v2 : Vis scope yn) (v3 : Vis scope zn) (d1 : (sn == ("__debug__" : Str)) = false := by decide) (d2 : (yn == ("__debug__" : Str)) = false := by decide) (d3 : (zn == ("__debug__" : Str)) = false := by decide) (c1 : (sn == ("__classdict__" : Str)) = false := by decide) (c2 : (yn == ("__classdict__" : Str)) = false := by decide) (c3 : (zn == ("__classdict__" : Str)) = false := by decide) :
    FnG P w K mg base (k + 1) fI fd [sn, yn, zn] (spXI2 C f g) := by
  refine fnG_of F sc (fun vs H Q E h => ?_) fun cdv A outer s H vs Q E hr h => ?_
  · obtain ⟨a, y, z, rfl, _⟩ := h
    rfl
  · obtain ⟨a, y, z, rfl, ha, q⟩ := h
    subst hb
    refine ⟨_, pss_cons (ps_os1 (pe_var (i := 0) rfl v1 d1 c1) (pe_var (i := 1) rfl v2 d2 c2)) (pss_one (ps_os2 (pe_var (i := 0) rfl v1 d1 c1) (pe_var (i := 2) rfl v3 d3 c3))), ?_⟩
    refine ⟨y, rfl, .ref a, rfl, a, C, rfl, T, hno, ha, fun dx n ne => ?_⟩
    exact ⟨z, rfl, .ref a, rfl, a, C, dx, [(f, y)], rfl, T, hno2, upd_same, by rw [upd_ne ne, upd_same], by simp, q dx n ne⟩
end Mir

namespace Mir
open PySem L2
section
variable {X : Cx} {W : WX} {e kx vx : Expr} {m : ME} {t : MT} {ifs : List Expr} {elts : List Expr} {kk : Nat} {i j : Nat} {scope : Scope} {own : List (Str × Nat)} {tpos apos cpos pos : Pos}
end
end Mir

namespace Mir
open PySem L2
section
variable {X : Cx} {W : WX} {o : Expr} {mo : ME} {td : TE} {apos mpos p pos : Pos}
end
end Mir

namespace Mir
open PySem L2
section
variable {P : Program} {w : World} {A : Around} {E : Value → Shared → Prop} {s : Shared} {d a : Addr} {o : Obj} {es : Array DictEntry} {ep : Nat} {k : Key} {key v : Value} {Q : Unit → Shared → Prop}
end
end Mir

namespace Mir
open PySem L2
section
variable {X : Cx} {pins : List (Addr × Obj)} {σ : St} {H : Hp} {s : Shared} {d : Addr} {kvs kvs' : List (Key × V)} {vs' : List (Key × Value)}
end
section
variable {X : Cx} {pins : List (Addr × Obj)} {σ : St} {H : Hp} {s : Shared}
end
section
variable {X : Cx} {de ke ve : Expr} {td tk tv : TE} {pos : Pos}
end
end Mir

namespace Mir
open PySem L2
section
variable {K : PySem.W.Frag} {io io' : Io} {F F' H H' : Hp} {D : Addr} {o : HO}
end
section
variable {X : Cx} {W : WX} {de ke ve a o i : Expr} {m mk mv ma mo mi : ME} {pos : Pos} {k : Nat}
end
end Mir

namespace Mir
open PySem L2
section
variable {K : PySem.W.Frag} {io : Io} {F H : Hp} {S : Sto}
end
section
variable {X : Cx} {W : WX} {a b i o e : Expr} {ma mb mi mo m : ME} {pos p apos mpos : Pos} {k : Nat}
end
end Mir

namespace Mir
open PySem L2
section
variable {X : Cx} {W : WX} {e kx vx : Expr} {m : ME} {t : MT} {ifs : List Expr} {elts : List Expr} {kk : Nat} {i j : Nat} {scope : Scope} {own : List (Str × Nat)} {tpos apos cpos pos : Pos}
end
end Mir
namespace Mir
open PySem L2
end Mir

namespace Mir
open PySem L2
section
variable {X : Cx} {W : WX} {o : Expr} {mo : ME} {td : TE} {apos mpos p pos : Pos}
end
section
variable {X : Cx} {W : WX} {a : Expr} {ma : ME} {pos p : Pos}
end
section
variable {X : Cx} {W : WX} {tg e : Expr} {m : ME}
end
section
variable {X : Cx} {W : WX} {a b : Expr} {ma mb : ME} {pos : Pos}
end
end Mir

namespace Mir
open PySem L2
section
variable {X : Cx} {W : WX} {pos : Pos} {es : List Expr} {mas : MA}
end
end Mir

namespace Mir
open PySem L2
section
variable {K : PySem.W.Frag}
end
section
variable {X : Cx} {W : WX} {o a b : Expr} {mo ma mb : ME} {apos pos : Pos}
end
end Mir

namespace Mir
open PySem L2
section
variable {K : PySem.W.Frag} {io : Io} {F : Hp} {S : Sto} {H : Hp}
end
section
variable {X : Cx} {W : WX} {x : Str} {p pos : Pos} {params : Arguments} {ps : List Str} {k j : Nat} {m : MF} {mo : ME}
end
end Mir

namespace Mir
open PySem PySem.Spec PyProof.Rows L2
section
variable {M : Model} {A : Around} {E : Value → Shared → Prop} {s : Shared} {env : PySem.Env}
end
section
variable {M : Model} {A : Around} {E : Value → Shared → Prop} {s : Shared} {Z : Obj → Prop} {base : Heap} {env ce : PySem.Env} {outer l : List PySem.Env} {L e : Addr}
end
end Mir

namespace Mir
open PySem PySem.Spec PyProof.Rows L2
section
variable {X : Cx} {pins : List (Addr × Obj)} {σ : L2.St} {W : WX}
end
end Mir

namespace Mir
open PySem L2
section
variable {K : PySem.W.Frag} {Q : VK} {E : XK}
end
section
variable {X : Cx} {W : WX} {elt tg iter c : Expr} {scope : Scope} {own : List (Str × Nat)} {pos : Pos} {it : MI} {js : List Nat} {g : MG} {t : MT} {e : ME}
end
end Mir

namespace Rw
open PySem PySem.Spec PyProof.Rows L2 Mir
section
variable {X : Cx}
end
end Rw

namespace Mir
open PySem PySem.Spec PyProof.Rows L2 Rw
section
variable {X : Cx} {W : WX} {es : List Expr} {ys : List (List Nat)} {z : List Nat} {z' : Str} {a k : Str} {ia ik j : Nat} {p1 p3 p4 p6 c1 lp apos cpos pos fpos : Pos}
end
section
variable {X : Cx} {W : WX} {e : Expr} {rest : List Stmt} {me : ME} {mrest : MS} {i : Nat} {x : Str} {pos' pos : Pos}
end
end Mir

namespace Mir
open PySem PySem.Spec PyProof.Rows L2
end Mir

namespace Mir
open PySem PySem.Spec PyProof.Rows L2
end Mir

namespace PySem
namespace HandSPX
open Builtin Builtin.ObjectAttr
section
variable {M : Model} {A : Around} {E : Value → Shared → Prop} {h : Heap} {g : Array GenState} {d : Drawn} {t : Nat} {os : OsState}
variable {nm q : Str} {C N : Addr} {bs bm bmB : List Value} {hdct : Bool} {sn : List Str} {sub : List Value} {ab : Bool} {col : Option Bool} {dd : Option Addr} {k0 k1 k2 k3 k5 : Option Value} {B newId initId : String}
theorem check_new_ownK (F : ExcBaseFacts B newId initId bmB) (hT : ∀ X : String, bm.contains (.type X) = bmB.contains (.type X)) {rest : List Value} {kw : List (Str × Value)} {Q : Unit → Shared → Prop}
    (hC : h.get? C = some (excClassObj nm q C N bs bm hdct sn sub ab col dd k0 k1 k2 k3 k5 newId)) (hq : Q () ⟨h, g, d, t, os⟩) : wpAny M A (checkBuiltinCall newId ⟨.ref C :: rest, kw⟩) Q E ⟨h, g, d, t, os⟩ := by
  have hcont : (Value.ref C :: bm).contains (.type B) = true := by rw [List.contains_cons, hT, F.hasB, Bool.or_true]
  have hstar := F.noStar
  simp only [checkBuiltinCall, F.newKind, F.newSplit, F.newRow]
  repeat (first | refine wpAny_loadPart_at hC ?_ | (refine wpAny_isSubtype_exc hC ?_; rw [hcont]) | refine wpAny_staticBase_exc hC ?_ | refine wpAny_madeBy_exc hC ?_ | simp only [bne_self_eq_false, Bool.false_eq_true, if_false] | wp_step)
  exact hq
end
section
variable {prog : Program} {w : World} {A : Around} {E : Value → Shared → Prop} {R : Result → Shared → Prop} {h : Heap} {g : Array GenState} {d : Drawn} {t : Nat} {os : OsState}
variable {nm q : Str} {C N : Addr} {bs bm bmB : List Value} {hdct : Bool} {sn : List Str} {sub : List Value} {ab : Bool} {col : Option Bool} {dd : Option Addr} {k0 k1 k2 k3 k5 : Option Value} {B newId initId : String}
theorem new_ownK (F : ExcBaseFacts B newId initId bmB) (hT : ∀ X : String, bm.contains (.type X) = bmB.contains (.type X)) {rest : List Value} {kw : List (Str × Value)}
    (hC : h.get? C = some (excClassObj nm q C N bs bm hdct sn sub ab col dd k0 k1 k2 k3 k5 newId))
    (hq : R (.ok (.ret (.ref (h.objs.size + 1)))) ⟨(h.push { cls := .type "tuple", data := .seq rest.toArray }).push
      { cls := .ref C, data := .fields #[.ref h.objs.size, .none, .none, .none, .bool false, .none] }, g, d, t, os⟩) (hrest : rest.length ≤ sizeLine) :
    codeAny (model prog w) A (.builtin newId ⟨.ref C :: rest, kw⟩) R ⟨h, g, d, t, os⟩ := by
  have hends := F.ends
  have hcB : (Value.ref C :: bm).contains (.type B) = true := by rw [List.contains_cons, hT, F.hasB, Bool.or_true]
  have hcA : (Value.ref C :: bm).contains (.type "AttributeError") = false := by rw [List.contains_cons, hT, F.noAttr]; rfl
  have hcN : (Value.ref C :: bm).contains (.type "NameError") = false := by rw [List.contains_cons, hT, F.noName]; rfl
  refine codeAny_builtinAt F.entry ?_
  unfold Builtin.«BaseException.__new__»
  refine wpAt_bind ?_
  show wpAt _ _ _ (stack >>= _) _ _ _
  refine wpAt_bind (wpAt_stack fun p below => wpAt_of_wpAny ?_)
  wp_walk
  refine wpAt_of_wpAny ?_
  rw [F.owner]
  repeat (first | with_reducible refine wpAny_madeHere_exc F.canon hC ?_ | with_reducible refine wpAny_loadPart_at hC ?_ | (with_reducible refine wpAny_isSubtype_exc hC ?_; first | rw [hcB] | rw [hcA] | rw [hcN]) | wp_step)
  show R _ _
  rw [Heap.size_push]
  exact hq
theorem type_call_ownK (F : ExcBaseFacts B newId initId bmB) (hT : ∀ X : String, bm.contains (.type X) = bmB.contains (.type X)) {rest : List Value} {kw : List (Str × Value)} {fI : Addr} {Q : Fin → Shared → Prop}
    (hC : h.get? C = some (excClassObj nm q C N bs bm hdct sn sub ab col dd k0 k1 k2 k3 k5 newId))
    (hi : W.Looks (model prog w) h (typeLookup (.ref C) "__init__") (some (.ref fI))) (hb : ∀ self, W.Looks (model prog w) h (bindSpecial (.ref fI) self) (.ref fI, [self])) (hrest : rest.length ≤ sizeLine)
    (hq : codeAny (model prog w) A (.call (.ref fI) ⟨.ref (h.objs.size + 1) :: rest, kw⟩)
      (fun r s' => match r with | .ok (.ret v) => v = .none ∧ Q (.done (.ret (.ref (h.objs.size + 1)))) s' | .ok _ => False | .error e => E e s')
      ⟨(h.push (W.kdv_tup rest)).push (excO C h.objs.size), g, d, t, os⟩) :
    wpAny (model prog w) A (Builtin.«type.__call__» ⟨.ref C :: rest, kw⟩) Q E ⟨h, g, d, t, os⟩ := by
  repeat (first | with_reducible refine wpAny_loadPart_at hC ?_ | with_reducible refine wpAny_madeBy_exc hC ?_ | wp_step)
  refine codeAny_call_builtin_code (Code.quiet_builtin _ F.quiet) (check_new_ownK F hT hC ?_)
  refine new_ownK F hT hC ?_ hrest
  show wpAny _ _ _ _ _ _
  have k : ∀ b o, h.get? b = some o → ((h.push (W.kdv_tup rest)).push (excO C h.objs.size)).get? b = some o := fun b o e => Heap.get?_push_of_some _ (Heap.get?_push_of_some _ e)
  have hC₁ := k _ _ hC
  have hget : ((h.push (W.kdv_tup rest)).push (excO C h.objs.size)).get? (h.objs.size + 1) = some (excO C h.objs.size) := by heap_get
  have hcC : (Value.ref C :: bm).contains (.ref C) = true := by simp
  have i1 := hi.keeps k
  have b1 := (hb (.ref (h.objs.size + 1))).keeps k
  unfold isInstance
  repeat (first | with_reducible refine wpAny_loadPart_at hget ?_ | (with_reducible refine wpAny_isSubtype_exc hC₁ ?_; rw [hcC]) | wp_step)
  show wpAny _ _ (typeLookup (.ref C) _) _ _ _
  refine i1.at ?_
  refine wpAny_holding (wpAny_bind (b1.at ?_))
  refine wpAny_bind (wpAny_call (codeAny_mono hq fun r s' z => ?_))
  rcases r with e | (v | _ | _ | _) <;> first | exact z | exact z.elim | skip
  obtain ⟨rfl, z⟩ := z
  first
    | exact wpAny_pure (wpAny_pure z)
    | (wp_walk; exact z)
theorem call_ownK (F : ExcBaseFacts B newId initId bmB) (hT : ∀ X : String, bm.contains (.type X) = bmB.contains (.type X)) {rest : List Value} {kw : List (Str × Value)} {fI : Addr}
    (hC : h.get? C = some (excClassObj nm q C N bs bm hdct sn sub ab col dd k0 k1 k2 k3 k5 newId))
    (hi : W.Looks (model prog w) h (typeLookup (.ref C) "__init__") (some (.ref fI))) (hb : ∀ self, W.Looks (model prog w) h (bindSpecial (.ref fI) self) (.ref fI, [self])) (hrest : rest.length ≤ sizeLine)
    (hq : codeAny (model prog w) (A.under (.builtin "type.__call__" ⟨.ref C :: rest, kw⟩)) (.call (.ref fI) ⟨.ref (h.objs.size + 1) :: rest, kw⟩) (W.InitBack (h.objs.size + 1) R)
      ⟨(h.push (W.kdv_tup rest)).push (excO C h.objs.size), g, d, t, os⟩) :
    codeAny (model prog w) A (.call (.ref C) ⟨rest, kw⟩) R ⟨h, g, d, t, os⟩ := by
  have f1 := tc_lookup
  have f2 := tc_bind (.ref C)
  have hTy : (⟨h, g, d, t, os⟩ : Shared).TypeIs (.ref C) "type" := ⟨_, hC, rfl⟩
  refine codeAny_of_tree ?_
  show wpAny _ _ (callAny (.ref C) _) _ _ _
  repeat (any_goals (first | assumption | with_reducible refine wpAny_loadPart_at hC ?_ | wp_step))
  refine ⟨rfl, ?_⟩
  refine codeAny_call_builtin_at (Code.quiet_builtin _ (by decide +kernel)) entry_typeCall (wpAny_check_type_call_sub hC (type_call_ownK F hT hC hi hb hrest ?_))
  refine codeAny_mono hq fun r s' z => ?_
  rcases r with e | (v | _ | _ | _) <;> exact z
end
end HandSPX
end PySem
namespace Mir
open PySem PySem.Spec L2
structure XV (P : Program) (w : World) (K : PySem.W.Frag) (mg : Str → Option Value) (base : Heap) (c : Str) (params : Arguments) (ps : List Str) (sp : Sp) (k : Nat) : Prop where
  g : mg c = some (.ref (He.ga K c))
  T : OexG K (He.ga K c)
  ini : ∃ fI fd, PySem.W.findIn K (.ref (He.ga K c)) "__init__" = some (some (.ref fI)) ∧ PySem.W.typeIn K (.ref fI) = some (.type "function") ∧ FnG P w K mg base k fI fd ps sp ∧ Binds K fd ps [] ∧ HasPar fd params
def tErr (C : Addr) (sp : Sp) (ta : TA) : TE := fun σ H Q => ta σ H fun vs H1 => vs.length ≤ 100 ∧ ∀ a, H1 a = none → sp (.ref a :: vs) (upd H1 a (exo a C none)) (fun v H2 => v = .non ∧ Q (.ref a) H2) (fun _ _ _ => False)
section
variable {X : Cx} {W : WX} {e : Expr} {es : List Expr} {ta : TA} {p pos : Pos} {params : Arguments} {ps ks : List Str} {k j : Nat} {sp : Sp} {c : Str}
theorem pe_err (G : XV X.prog X.w X.K X.mg X.base c params ps sp k) (hr : RoomG j X.A) (hk : k + 1 ≤ j) (tk : Takes X W) (ha : PA X (e :: es) ta) (hg : Gl X c)
    (hdb : (c == ("__debug__" : Str)) = false) (he : starEach (e :: es) X.env = (false, eval e X.env) :: starEach es X.env) (hpl : (backTo pos (starEach es X.env)).any (·.1) = false) :
    PE X (.Call (.Name c p) (e :: es) [] pos) (tErr (He.ga X.K c) sp ta) := by
  refine ⟨fun pins s σ H Q I h => ?_⟩
  obtain ⟨fI, fd, iC, tI, F1, hb, _⟩ := G.ini
  obtain ⟨newId, bmB, ⟨⟨B, ini, BF⟩, _⟩, hin, _⟩ := G.T.cls
  have hr := hr.mono hk
  refine wpAny_Call_Name_kw (ld_glob I hg G.g ?_ hdb)
  refine PySem.W.callWith_K (h₀ := X.base) I.ok.mod.kin G.T.kC (thn (ha.run pos pins s σ H _ I h) fun us s1 ⟨vs, H1, I1, r1, hz, q1⟩ => ⟨I1.kIn, ?_⟩) he hpl
  show wpAny _ _ (call (.ref (He.ga X.K c)) us) _ _ _
  obtain ⟨hp, g, dr, tk0, os⟩ := s1
  obtain ⟨nm, N, qn, bs, bm, hdct, sn, sub, ab, col, dd, k0, k1, k2, k3, k5, hC, hbm⟩ := PySem.W.excInit_of I1.kIn hin
  have hsz : hp.objs.size ≤ hp.objs.size + 1 := Nat.le_succ _
  have hn : H1 (hp.objs.size + 1) = none := I1.hok.fresh hsz
  have hq := q1 (hp.objs.size + 1) hn
  have kk : ∀ b o, hp.get? b = some o → ((hp.push (PySem.W.kdv_tup us)).push (PySem.HandSPX.excO (He.ga X.K c) hp.objs.size)).get? b = some o := fun b o e => Heap.get?_push_of_some _ (Heap.get?_push_of_some _ e)
  have hget : ((hp.push (PySem.W.kdv_tup us)).push (PySem.HandSPX.excO (He.ga X.K c) hp.objs.size)).get? (hp.objs.size + 1) = some (PySem.HandSPX.excO (He.ga X.K c) hp.objs.size) := by heap_get
  have I2 : Inv X pins σ (upd H1 (hp.objs.size + 1) (exo (hp.objs.size + 1) (He.ga X.K c) none)) ⟨(hp.push (PySem.W.kdv_tup us)).push (PySem.HandSPX.excO (He.ga X.K c) hp.objs.size), g, dr, tk0, os⟩ :=
    I1.laid (t' := tk0) (a := hp.objs.size + 1) (o := exo (hp.objs.size + 1) (He.ga X.K c) none) (h' := (hp.push (PySem.W.kdv_tup us)).push (PySem.HandSPX.excO (He.ga X.K c) hp.objs.size)) kk hsz (exo_ok hget)
  have r2 : Vals (V.ref (hp.objs.size + 1) :: (vs ++ [])) (Value.ref (hp.objs.size + 1) :: (us ++ [])) := .cons rfl (r1.append .nil)
  rw [List.append_nil] at r2
  rw [List.append_nil] at r2
  have hl : (Value.ref (hp.objs.size + 1) :: us).length = ps.length := by
    have e := r2.length
    rw [F1.len _ _ _ _ hq] at e
    exact e.symm
  have hbt := hb _ (Value.ref (hp.objs.size + 1) :: us) I2.kIn (by rw [List.append_nil]; exact hl)
  rw [List.append_nil] at hbt
  have hus : us.length ≤ sizeLine := by
    rw [← Paired.length r1, sizeLine_eq]
    omega
  refine wpAny_call (PySem.HandSPX.call_own BF hbm hC (PySem.W.looks_findIn I1.kIn iC) (fun self => PySem.W.bind_fn I1.kIn self tI) hus
    (codeAny_mono (F1.run _ X.stack _ _ ⟨Value.ref (hp.objs.size + 1) :: us, []⟩ (Value.ref (hp.objs.size + 1) :: us) _ _ (fun _ _ _ => False) (hr.make (He.ga X.K c) us []) (I2.env0.make (He.ga X.K c) us []) hbt r2 hq) fun r s' hq' => ?_))
  cases r with
  | error er => exact tk _ _ (XE.of_call I2 (fun _ _ _ z => z.elim) hq')
  | ok fl =>
    cases fl with
    | ret u =>
      obtain ⟨v, H', I3, rv, ev, q3⟩ := I2.after hq'
      subst ev
      exact ⟨rv, ⟨V.ref (hp.objs.size + 1), H', I3, rfl, q3⟩⟩
    | next => exact False.elim hq'
    | brk => exact False.elim hq'
    | cont => exact False.elim hq'

def tErrK (C : Addr) (sp : Sp) (kl : Nat) (pm : List Nat) (u : TA) : TE := fun σ H Q => u σ H fun zs H1 => zs.length = kl ∧ ∀ a, H1 a = none → sp (permL .non pm (.ref a :: zs)) (upd H1 a (exo a C none)) (fun v H2 => v = .non ∧ Q (.ref a) H2) (fun _ _ _ => False)
theorem pe_errK {kws : List Keyword} {pm : List Nat} {u : TA} (G : XV X.prog X.w X.K X.mg X.base c params ps sp k) (hr : RoomG j X.A) (hk : k + 1 ≤ j) (tk : Takes X W) (qk : PK X kws u) (hb : KwTo params ps ks 1 pm) (hpm : ∀ i ∈ pm, i < 1 + ks.length) (hp0 : pm.head? = some 0) (hg : Gl X c)
    (hall : (backToKw pos (keywordEach kws X.env)).all (·.1.isSome) = true) (hks : (backToKw pos (keywordEach kws X.env)).filterMap (·.1) = ks)
    (hdb : (c == ("__debug__" : Str)) = false) (hpl : ((backTo pos (starEach [] X.env)).any (·.1) || (backToKw pos (keywordEach kws X.env)).any (·.1.isNone)) = false) :
    PE X (.Call (.Name c p) [] kws pos) (tErrK (He.ga X.K c) sp ks.length pm u) := by
  refine ⟨fun pins s σ H Q I h => ?_⟩
  obtain ⟨fI, fd, iC, tI, F1, _, hp⟩ := G.ini
  obtain ⟨newId, bmB, ⟨⟨B, ini, BF⟩, _⟩, hin, _⟩ := G.T.cls
  have hr := hr.mono hk
  refine wpAny_Call_Name_kw (ld_glob I hg G.g ?_ hdb)
  refine PySem.W.callWith_KW0 (h₀ := X.base) I.ok.mod.kin G.T.kC hall (thn (qk.run pos pins s σ H _ I h) fun ws s1 ⟨zs, H1, I1, r1, hz, q1⟩ => ⟨I1.kIn, ?_⟩) hpl
  rw [hks]
  show wpAny _ _ (call (.ref (He.ga X.K c)) [] (ks.zip ws)) _ _ _
  obtain ⟨hp', g, dr, tk0, os⟩ := s1
  obtain ⟨nm, N, qn, bs, bm, hdct, sn, sub, ab, col, dd, k0, k1, k2, k3, k5, hC, hbm⟩ := PySem.W.excInit_of I1.kIn hin
  have hsz : hp'.objs.size ≤ hp'.objs.size + 1 := Nat.le_succ _
  have hn : H1 (hp'.objs.size + 1) = none := I1.hok.fresh hsz
  have hq := q1 (hp'.objs.size + 1) hn
  have kk : ∀ b o, hp'.get? b = some o → ((hp'.push (PySem.W.kdv_tup [])).push (PySem.HandSPX.excO (He.ga X.K c) hp'.objs.size)).get? b = some o := fun b o e => Heap.get?_push_of_some _ (Heap.get?_push_of_some _ e)
  have hget : ((hp'.push (PySem.W.kdv_tup [])).push (PySem.HandSPX.excO (He.ga X.K c) hp'.objs.size)).get? (hp'.objs.size + 1) = some (PySem.HandSPX.excO (He.ga X.K c) hp'.objs.size) := by heap_get
  have I2 : Inv X pins σ (upd H1 (hp'.objs.size + 1) (exo (hp'.objs.size + 1) (He.ga X.K c) none)) ⟨(hp'.push (PySem.W.kdv_tup [])).push (PySem.HandSPX.excO (He.ga X.K c) hp'.objs.size), g, dr, tk0, os⟩ :=
    I1.laid (t' := tk0) (a := hp'.objs.size + 1) (o := exo (hp'.objs.size + 1) (He.ga X.K c) none) (h' := (hp'.push (PySem.W.kdv_tup [])).push (PySem.HandSPX.excO (He.ga X.K c) hp'.objs.size)) kk hsz (exo_ok hget)
  have r2 : Vals (V.ref (hp'.objs.size + 1) :: zs) (Value.ref (hp'.objs.size + 1) :: ws) := .cons rfl r1
  have hw : ws.length = ks.length := by rw [← r1.length]; exact hz
  have r3 : Vals (permL .non pm (V.ref (hp'.objs.size + 1) :: zs)) (permL .none pm (Value.ref (hp'.objs.size + 1) :: ws)) := vals_perm r2 pm fun i hi => by rw [List.length_cons, hz]; have := hpm i hi; omega
  obtain ⟨x0, qual, body, scope, kV, doc, pmv, an, cdv, ct, rfl⟩ := hp
  have eb := hb x0 qual body scope kV doc pmv an cdv ct [Value.ref (hp'.objs.size + 1)] ws rfl hw
  refine wpAny_call (PySem.HandSPX.call_ownK BF hbm hC (PySem.W.looks_findIn I1.kIn iC) (fun self => PySem.W.bind_fn I1.kIn self tI) (by simp [sizeLine_eq])
    (codeAny_mono (F1.run _ X.stack _ _ ⟨[Value.ref (hp'.objs.size + 1)], ks.zip ws⟩ (permL .none pm (Value.ref (hp'.objs.size + 1) :: ws)) _ _ (fun _ _ _ => False) (hr.make (He.ga X.K c) [] (ks.zip ws)) (I2.env0.make (He.ga X.K c) [] (ks.zip ws)) (.of_eq eb) r3 hq) fun r s' hq' => ?_))
  cases r with
  | error er => exact tk _ _ (XE.of_call I2 (fun _ _ _ z => z.elim) hq')
  | ok fl =>
    cases fl with
    | ret u =>
      obtain ⟨v, H', I3, rv, ev, q3⟩ := I2.after hq'
      subst ev
      exact ⟨rv, ⟨V.ref (hp'.objs.size + 1), H', I3, rfl, q3⟩⟩
    | next => exact False.elim hq'
    | brk => exact False.elim hq'
    | cont => exact False.elim hq'
end
theorem upd1 {H : Hp} {a dx : Addr} {u v o : HO} (hne : dx ≠ a) : upd (upd (upd H a u) dx v) a o = upd (upd H dx v) a o := by
  funext b
  by_cases h1 : b = a
  · subst h1; rw [upd_same, upd_same]
  · rw [upd_ne h1, upd_ne h1]
    by_cases h2 : b = dx
    · subst h2; rw [upd_same, upd_same]
    · rw [upd_ne h2, upd_ne h2, upd_ne h1]
theorem upd2 {H : Hp} {a dx : Addr} {u v v2 o : HO} (hne : dx ≠ a) : upd (upd (upd (upd H a u) dx v) a o) dx v2 = upd (upd H dx v2) a o := by
  funext b
  by_cases h1 : b = a
  · subst h1; rw [upd_same, upd_ne (Ne.symm hne), upd_same]
  · by_cases h2 : b = dx
    · subst h2; rw [upd_same, upd_ne h1, upd_same]
    · rw [upd_ne h2, upd_ne h1, upd_ne h2, upd_ne h1, upd_ne h1, upd_ne h2]
section
variable {K : PySem.W.Frag} {io : Io} {F H : Hp} {S : Sto}
theorem err_laid (st : Sta K io F S H) {c : Str} {a dx : Addr} {gs : List (Str × V)} {ns : List Str} {xs : List P} (ha : H a = none) (hd : H dx = none) (hne : dx ≠ a) (hn : gs.map (·.1) = ns) (r : RepL K F xs (gs.map (·.2))) :
    ∃ F', Nxt io F H io F' (upd (upd H dx (exd dx gs)) a (exo a (He.ga K c) (some dx))) ∧ Sta K io F' S (upd (upd H dx (exd dx gs)) a (exo a (He.ga K c) (some dx))) ∧ Rep K F' (.err c ns xs) (.ref a) := by
  obtain ⟨s1, n1⟩ := st.froze (o := exd dx gs) hd
  obtain ⟨s2, n2⟩ := s1.froze (p := a) (o := exo a (He.ga K c) (some dx)) (by rw [upd_ne (Ne.symm hne)]; exact ha)
  exact ⟨_, n1.trans n2, s2, a, gs, rfl, .inr ⟨dx, upd_same, by rw [upd_ne hne, upd_same]⟩, hn, RepL.mono (n1.trans n2).fr r⟩
end
def eErr1 (c f : Str) (a : MA) : ME := fun ρ S => (a ρ S).bind fun ds S1 => match ds with
  | [.p x] => .ok (.p (.err c [f] [x])) S1
  | _ => .bad
def eErr2 (c f g : Str) (a : MA) : ME := fun ρ S => (a ρ S).bind fun ds S1 => match ds with
  | [.p x, .p y] => .ok (.p (.err c [g, f] [y, x])) S1
  | _ => .bad
def eErr2K (c f g : Str) (a : MA) : ME := fun ρ S => (a ρ S).bind fun ds S1 => match ds with
  | [.p y, .p x] => .ok (.p (.err c [g, f] [y, x])) S1
  | _ => .bad
def eErr0 (c : Str) : ME := fun _ S => .ok (.p (.err c [] [])) S
section
variable {X : Cx} {W : WX} {mas mks : MA} {p pos : Pos} {params : Arguments} {ps ks : List Str} {k j : Nat} {c f g : Str} {e e2 : Expr} {kws : List Keyword}
theorem oe_err1 (G : XV X.prog X.w X.K X.mg X.base c params ps (spXI (He.ga X.K c) f) k) (hr : RoomG j X.A) (hk : k + 1 ≤ j) (tk : Takes X W) (ha : OA X W [e] mas) (hg : Gl X c := by rfl)
    (hdb : (c == ("__debug__" : Str)) = false := by decide) (he : starEach [e] X.env = (false, eval e X.env) :: starEach [] X.env := by rfl) :
    OE X W (.Call (.Name c p) [e] [] pos) (eErr1 c f mas) := by
  obtain ⟨ta, pa, ha⟩ := ha
  refine ⟨_, pe_err G hr hk tk pa hg hdb he rfl, fun ρ S io F σ H Q st en h => ?_⟩
  refine ha ρ S io F σ H _ st en (RG.bind h fun ds S1 io1 F1 H1 vs e1 n1 s1 r1 h1 => ?_)
  match ds, r1, h1 with
  | [.p x], ⟨v, w, e1, rd, e2⟩, h1 =>
    have e2 : w = [] := e2
    subst e2; subst e1
    refine ⟨by simp, fun a hna => ⟨a, v, rfl, upd_same, fun dx hdx hne => ⟨rfl, ?_⟩⟩⟩
    rw [upd_ne hne] at hdx
    rw [upd1 hne]
    obtain ⟨F2, n2, s2, rp⟩ := err_laid s1 (c := c) (gs := [(f, v)]) (ns := [f]) (xs := [x]) hna hdx hne rfl (.cons rd .nil)
    exact h1 io1 F2 _ (.ref a) n2 s2 rp
  | [], _, h1 => exact h1.elim
  | .c _ :: _, _, h1 => exact h1.elim
  | .p _ :: _ :: _, _, h1 => exact h1.elim
theorem oe_err1K (G : XV X.prog X.w X.K X.mg X.base c params ps (spXI (He.ga X.K c) f) k) (hr : RoomG j X.A) (hk : k + 1 ≤ j) (tk : Takes X W) (hw : OK_ X W kws mks) (hb : KwTo params ps ks 1 [0, 1]) (hl : ks.length = 1) (hg : Gl X c := by rfl)
    (hall : (backToKw pos (keywordEach kws X.env)).all (·.1.isSome) = true := by rfl) (hks : (backToKw pos (keywordEach kws X.env)).filterMap (·.1) = ks := by rfl)
    (hdb : (c == ("__debug__" : Str)) = false := by decide)
    (hpl : ((backTo pos (starEach [] X.env)).any (·.1) || (backToKw pos (keywordEach kws X.env)).any (·.1.isNone)) = false := by rfl) :
    OE X W (.Call (.Name c p) [] kws pos) (eErr1 c f mks) := by
  obtain ⟨u, qk, hw⟩ := hw
  refine ⟨_, pe_errK G hr hk tk qk hb (fun i hi => by simp at hi; omega) rfl hg hall hks hdb hpl, fun ρ S io F σ H Q st en h => ?_⟩
  refine hw ρ S io F σ H _ st en (RG.bind h fun ds S1 io1 F1 H1 vs e1 n1 s1 r1 h1 => ?_)
  match ds, r1, h1 with
  | [.p x], ⟨v, w, e1, rd, e2⟩, h1 =>
    have e2 : w = [] := e2
    subst e2; subst e1
    refine ⟨by simp [hl], fun a hna => ⟨a, v, rfl, upd_same, fun dx hdx hne => ⟨rfl, ?_⟩⟩⟩
    rw [upd_ne hne] at hdx
    rw [upd1 hne]
    obtain ⟨F2, n2, s2, rp⟩ := err_laid s1 (c := c) (gs := [(f, v)]) (ns := [f]) (xs := [x]) hna hdx hne rfl (.cons rd .nil)
    exact h1 io1 F2 _ (.ref a) n2 s2 rp
  | [], _, h1 => exact h1.elim
  | .c _ :: _, _, h1 => exact h1.elim
  | .p _ :: _ :: _, _, h1 => exact h1.elim
theorem oe_err2 (G : XV X.prog X.w X.K X.mg X.base c params ps (spXI2 (He.ga X.K c) f g) k) (hr : RoomG j X.A) (hk : k + 1 ≤ j) (tk : Takes X W) (ha : OA X W [e, e2] mas) (hg : Gl X c := by rfl)
    (hdb : (c == ("__debug__" : Str)) = false := by decide) (he : starEach [e, e2] X.env = (false, eval e X.env) :: starEach [e2] X.env := by rfl) (he2 : (backTo pos (starEach [e2] X.env)).any (·.1) = false := by rfl) :
    OE X W (.Call (.Name c p) [e, e2] [] pos) (eErr2 c f g mas) := by
  obtain ⟨ta, pa, ha⟩ := ha
  refine ⟨_, pe_err G hr hk tk pa hg hdb he he2, fun ρ S io F σ H Q st en h => ?_⟩
  refine ha ρ S io F σ H _ st en (RG.bind h fun ds S1 io1 F1 H1 vs e1 n1 s1 r1 h1 => ?_)
  match ds, r1, h1 with
  | [.p x, .p y], ⟨v, w, e1, rd, v2, w2, e2, rd2, e3⟩, h1 =>
    have e3 : w2 = [] := e3
    subst e3; subst e2; subst e1
    refine ⟨by simp, fun a hna => ⟨a, v, v2, rfl, upd_same, fun dx hdx hne => ⟨rfl, ?_⟩⟩⟩
    rw [upd_ne hne] at hdx
    rw [upd2 hne]
    obtain ⟨F2, n2, s2, rp⟩ := err_laid s1 (c := c) (gs := [(g, v2), (f, v)]) (ns := [g, f]) (xs := [y, x]) hna hdx hne rfl (.cons rd2 (.cons rd .nil))
    exact h1 io1 F2 _ (.ref a) n2 s2 rp
  | [], _, h1 => exact h1.elim
  | [.p _], _, h1 => exact h1.elim
  | .c _ :: _, _, h1 => exact h1.elim
  | .p _ :: .c _ :: _, _, h1 => exact h1.elim
  | .p _ :: .p _ :: _ :: _, _, h1 => exact h1.elim
theorem oe_err2K (G : XV X.prog X.w X.K X.mg X.base c params ps (spXI2 (He.ga X.K c) f g) k) (hr : RoomG j X.A) (hk : k + 1 ≤ j) (tk : Takes X W) (hw : OK_ X W kws mks) (hb : KwTo params ps ks 1 [0, 2, 1]) (hl : ks.length = 2) (hg : Gl X c := by rfl)
    (hall : (backToKw pos (keywordEach kws X.env)).all (·.1.isSome) = true := by rfl) (hks : (backToKw pos (keywordEach kws X.env)).filterMap (·.1) = ks := by rfl)
    (hdb : (c == ("__debug__" : Str)) = false := by decide)
    (hpl : ((backTo pos (starEach [] X.env)).any (·.1) || (backToKw pos (keywordEach kws X.env)).any (·.1.isNone)) = false := by rfl) :
    OE X W (.Call (.Name c p) [] kws pos) (eErr2K c f g mks) := by
  obtain ⟨u, qk, hw⟩ := hw
  refine ⟨_, pe_errK G hr hk tk qk hb (fun i hi => by simp at hi; omega) rfl hg hall hks hdb hpl, fun ρ S io F σ H Q st en h => ?_⟩
  refine hw ρ S io F σ H _ st en (RG.bind h fun ds S1 io1 F1 H1 vs e1 n1 s1 r1 h1 => ?_)
  match ds, r1, h1 with
  | [.p y, .p x], ⟨v, w, e1, rd, v2, w2, e2, rd2, e3⟩, h1 =>
    have e3 : w2 = [] := e3
    subst e3; subst e2; subst e1
    refine ⟨by simp [hl], fun a hna => ⟨a, v2, v, rfl, upd_same, fun dx hdx hne => ⟨rfl, ?_⟩⟩⟩
    rw [upd_ne hne] at hdx
    rw [upd2 hne]
    obtain ⟨F2, n2, s2, rp⟩ := err_laid s1 (c := c) (gs := [(g, v), (f, v2)]) (ns := [g, f]) (xs := [y, x]) hna hdx hne rfl (.cons rd (.cons rd2 .nil))
    exact h1 io1 F2 _ (.ref a) n2 s2 rp
  | [], _, h1 => exact h1.elim
  | [.p _], _, h1 => exact h1.elim
  | .c _ :: _, _, h1 => exact h1.elim
  | .p _ :: .c _ :: _, _, h1 => exact h1.elim
  | .p _ :: .p _ :: _ :: _, _, h1 => exact h1.elim
theorem oe_err0 (G : XC0 X.K c) (gC : X.mg c = some (.ref (He.ga X.K c))) (hg : Gl X c := by rfl) (hdb : (c == ("__debug__" : Str)) = false := by decide) :
    OE X W (.Call (.Name c p) [] [] pos) (eErr0 c) := by
  obtain ⟨newId, bmB, ⟨⟨B, ini, BF⟩, _⟩, q⟩ := G.cls
  refine ⟨fun _ H Q => ∀ a, H a = none → Q (.ref a) (upd H a (exo a (He.ga X.K c) none)), ⟨fun pins s σ H Q I h => ?_⟩, fun ρ S io F σ H Q st en h a ha => ?_⟩
  · refine wpAny_Call_Name_kw (ld_glob I hg gC ?_ hdb)
    refine PySem.W.callWith_K0 I.kIn G.kC ?_
    show wpAny _ _ (call (.ref (He.ga X.K c)) []) _ _ _
    obtain ⟨hp, g, dr, tk, os⟩ := s
    obtain ⟨bm, N, nm, qn, bs, hdct, sn, sub, ab, col, dd, k0, k1, k2, k3, k5, mN, hC, hN, hni, T⟩ := exc_obj I.kIn q
    refine wpAny_call_exc_subT BF T hC hN hni (fun h' a hm => ?_) (by show 0 ≤ sizeLine; omega)
    have na : H a = none := I.hok.gone hm.new
    obtain ⟨t, he, _, _⟩ := hm.there
    have ne : ∀ {b : Addr} {o : Obj}, hp.get? b = some o → b ≠ a := fun {b o} z y => by
      have z2 := hm.new
      rw [y] at z
      exact absurd (z.symm.trans z2) (by simp)
    have Un1 : Un X.fs [] H (upd H a (exo a (He.ga X.K c) none)) hp h' := {
      keep := fun b o q _ _ _ => hm.keeps b o q
      slot := fun b o q _ _ _ => ⟨o.slots, hm.keeps b o q⟩
      free := fun b o q n _ => by rw [upd_ne (ne q)]; exact n
      there := fun b o q _ => ⟨o, hm.keeps b o q⟩
      tups := fun b xs q => by rw [upd_ne (ne_of_none q na)]; exact q
      frzs := fun b o v q => by rw [upd_ne (ne_of_none q na)]; exact q
      tbls := fun b ps q => ⟨#[], by rw [upd_ne (ne_of_none q na), q]; simp⟩ }
    refine ⟨.ref a, upd H a (exo a (He.ga X.K c) none), I.un (t' := tk) Un1 fun b o q => ?_, rfl, h a na⟩
    by_cases hb : b = a
    · subst hb
      rw [upd_same] at q
      cases q
      exact exo_ok he
    · rw [upd_ne hb] at q
      exact (I.hok b o q).stay (fun c v _ z => hm.keeps c v z) (fun c hc => by rw [upd_ne (ne_of_none hc na)]; exact hc) (fun c xs hc => by rw [upd_ne (ne_of_none hc na)]; exact hc)
  · obtain ⟨s2, n2⟩ := st.froze (o := exo a (He.ga X.K c) none) ha
    exact h io _ _ (.ref a) n2 s2 ⟨a, [], rfl, .inl ⟨upd_same, rfl⟩, rfl, RepL.nil⟩
end
def ErrL (K : PySem.W.Frag) (cs : List Str) : Prop := ∀ c ∈ cs, ExcC K (He.ga K c)
theorem errlB_ok {K : PySem.W.Frag} {cs : List Str} (h : errlB K cs = true) : ErrL K cs := fun c hc => excB_ok (List.all_eq_true.mp h c hc)
def ErrF (K : PySem.W.Frag) (cs : List Str) (f : Str) : Prop := ∀ c ∈ cs, ExcC K (He.ga K c) ∧ ExN K c f
theorem errfB_ok {K : PySem.W.Frag} {cs : List Str} {f : Str} (h : errfB K cs f = true) : ErrF K cs f := fun c hc => by
  obtain ⟨h1, h2⟩ := He.ba (List.all_eq_true.mp h c hc)
  exact ⟨excB_ok h1, exnB_ok h2⟩
def lkF (f : Str) : List Str → List P → Option P
  | n :: ns, x :: xs => if f = n then some x else lkF f ns xs
  | _, _ => none
def eErf (cs : List Str) (f : Str) (m : ME) : ME := fun ρ S => (m ρ S).bind fun d S1 => match d with
  | .p (.err c ns xs) => if c ∈ cs then (match lkF f ns xs with
    | some x => .ok (.p x) S1
    | none => .bad) else .bad
  | _ => .bad
theorem lkF_rep {K : PySem.W.Frag} {F : Hp} {f : Str} : ∀ {gs : List (Str × V)} {ns : List Str} {xs : List P} {x : P}, gs.map (·.1) = ns → RepL K F xs (gs.map (·.2)) → lkF f ns xs = some x → ∃ v, gs.lookup f = some v ∧ Rep K F x v
  | [], ns, xs, x, h1, h2, h3 => by
    have h1 : [] = ns := h1
    subst h1
    cases xs <;> cases h3
  | (n, u) :: gs, ns, xs, x, h1, h2, h3 => by
    have h1 : n :: gs.map (·.1) = ns := h1
    subst h1
    cases xs with
    | nil => cases h3
    | cons y xs =>
      obtain ⟨v, r, e1, r1, r2⟩ := h2
      cases e1
      unfold lkF at h3
      by_cases q : f = n
      · rw [if_pos q] at h3
        cases h3
        subst q
        exact ⟨_, by rw [List.lookup_cons]; simp, r1⟩
      · rw [if_neg q] at h3
        obtain ⟨v, h4, h5⟩ := lkF_rep rfl r2 h3
        refine ⟨v, ?_, h5⟩
        rw [List.lookup_cons]
        have : (f == n) = false := by simpa using q
        rw [this]
        exact h4
section
variable {X : Cx} {W : WX} {e : Expr} {m : ME} {f : Str} {cs : List Str} {pos : Pos}
def tErf (K : PySem.W.Frag) (cs : List Str) (f : Str) (te : TE) : TE := fun σ H Q => te σ H fun x H1 => ∃ (a dx : Addr) (c : Str) (fs : List (Str × V)) (v : V), x = .ref a ∧ c ∈ cs ∧ H1 a = some (exo a (He.ga K c) (some dx)) ∧ H1 dx = some (exd dx fs) ∧ fs.lookup f = some v ∧ Q v H1
theorem pe_erf {te : TE} (T : ErrF X.K cs f) (he : PE X e te) (hb : attributeBase e f X.env (eval e X.env) = eval e X.env) : PE X (.Attribute e f pos) (tErf X.K cs f te) := by
  refine ⟨fun pins s σ H Q I h => ?_⟩
  refine attr_of hb (thn (he.run pins s σ H _ I h) fun u s1 hh => ?_)
  obtain ⟨x, H1, I1, rx, a, dx, c, fs, v, ex, hc, ea, ed, l, q⟩ := hh
  subst ex
  obtain rfl : u = Value.ref a := rx
  obtain ⟨t1, ho⟩ := exo_at I1.hok ea
  obtain ⟨mA, hns, hr⟩ := exd_at I1.hok ed
  obtain ⟨od, hod, hl⟩ := lookIn_ns hns
  obtain ⟨u, hu, ru⟩ := RelO.some_of (v := v) (o := mA f) (by rw [← l]; exact hr f)
  obtain ⟨C, hno⟩ := T c hc
  have J : PySem.W.InstAt s1.heap a { cls := .ref (He.ga X.K c), dict := some dx, data := .fields #[.ref t1, .none, .none, .none, .bool false, .none] } (He.ga X.K c) (some od) := ⟨ho, rfl, rfl, hod⟩
  exact HandSPX.exc_get I1.kIn J C.hg C.hk C.hs (PySem.W.findObj_own C.hd hno rfl (by rw [hl, hu])) (handed_of ru) ⟨v, H1, I1.tok _, ru, q⟩
theorem oe_erf (T : ErrF X.K cs f) (he : OE X W e m) (hb : attributeBase e f X.env (eval e X.env) = eval e X.env := by rfl) : OE X W (.Attribute e f pos) (eErf cs f m) := by
  obtain ⟨t, p, he⟩ := he
  refine ⟨_, pe_erf T p hb, fun ρ S io F σ H Q st en h => ?_⟩
  refine he ρ S io F σ H _ st en (RG.bind h fun d S1 io1 F1 H1 v e1 n1 s1 r1 h1 => ?_)
  cases d with
  | c _ => exact h1.elim
  | p y =>
    cases y with
    | err c ns xs =>
      dsimp only at h1
      by_cases q : c ∈ cs
      · rw [if_pos q] at h1
        cases q2 : lkF f ns xs with
        | none => rw [q2] at h1; exact h1.elim
        | some x =>
          rw [q2] at h1
          obtain ⟨a, gs, rfl, hk, hn, hr⟩ := r1
          obtain ⟨w, hw, rw_⟩ := lkF_rep hn hr q2
          rcases hk with ⟨_, hg⟩ | ⟨dx, h2, h3⟩
          · subst hg; cases hw
          · exact ⟨a, dx, c, gs, w, rfl, q, s1.sub _ _ h2, s1.sub _ _ h3, hw, RG.val (R := RepA X.K) (d := .p x) s1 rw_ h1⟩
      · rw [if_neg q] at h1; exact h1.elim
    | _ => exact h1.elim
end
def KtB (K : PySem.W.Frag) (T : List (Str × String × Bool)) : Prop := ∀ q ∈ T, PySem.W.kitOne K (.ref (He.ga K q.1)) (.type q.2.1) = some q.2.2
theorem ktbB_ok {K : PySem.W.Frag} {T : List (Str × String × Bool)} (h : ktbB K T = true) : KtB K T := fun q hq => of_decide_eq_true (List.all_eq_true.mp h q hq)
def KtO (K : PySem.W.Frag) (T : Sb) : Prop := ∀ q ∈ T, PySem.W.kitOne K (.ref (He.ga K q.1)) (.ref (He.ga K q.2.1)) = some q.2.2
theorem ktoB_ok {K : PySem.W.Frag} {T : Sb} (h : ktoB K T = true) : KtO K T := fun q hq => of_decide_eq_true (List.all_eq_true.mp h q hq)
def eIsE (cs : List Str) (T : Sb) (T2 : List (Str × String × Bool)) (m b : ME) : ME := fun ρ S => (m ρ S).bind fun d S1 => (b ρ S1).bind fun k S2 => match d, k with
  | .p (.err c _ _), .p (.glo B) => if c ∈ cs then (match T.find? fun q => q.1 == c && q.2.1 == B with
    | some q => .ok (.p (.bl q.2.2)) S2
    | none => .bad) else .bad
  | .p (.err c _ _), .p (.ty B) => if c ∈ cs then (match T2.find? fun q => q.1 == c && q.2.1 == B with
    | some q => .ok (.p (.bl q.2.2)) S2
    | none => .bad) else .bad
  | _, _ => .bad
def rIsV (K : PySem.W.Frag) (cs : List Str) : List V → Hp → VK → Prop := fun xs H Q => ∃ (a : Addr) (c : Str) (k : V) (cv : Value) (b : Bool), xs = [.ref a, k] ∧ c ∈ cs ∧ (∀ u, L2.RelV k u → u = cv) ∧ PySem.W.kitOne K (.ref (He.ga K c)) cv = some b ∧
  (H a = some (exo a (He.ga K c) none) ∨ ∃ dx gs, H a = some (exo a (He.ga K c) (some dx)) ∧ H dx = some (exd dx gs)) ∧ Q (.bl b) H
theorem call_isV {X : Cx} {cs : List Str} (T : ErrL X.K cs) : CallR X (.builtin "isinstance") (rIsV X.K cs) := by
  intro pins s σ H xs us Q I r h
  obtain ⟨a, c, k, cv, b, rfl, hc, hcv, e, ho, q⟩ := h
  cases r with
  | cons rx rr =>
    cases rr with
    | cons rt rr =>
      cases rr
      cases rx
      have ec := hcv _ rt
      subst ec
      rcases ho with ho | ⟨dx, gs, ho, hd⟩
      · obtain ⟨t1, hget⟩ := exo_at I.hok ho
        have J : PySem.W.InstAt s.heap a { cls := .ref (He.ga X.K c), dict := none, data := .fields #[.ref t1, .none, .none, .none, .bool false, .none] } (He.ga X.K c) none := ⟨hget, rfl, rfl, trivial⟩
        exact PySem.W.kia_one (PySem.W.kitx_X (T c hc)) I.kIn J e (fun z => nomatch z) fun tk => ⟨.bl b, H, I.kept (t' := tk) fun _ _ z => z, rfl, q⟩
      · obtain ⟨t1, hget⟩ := exo_at I.hok ho
        obtain ⟨mA, hns, hr⟩ := exd_at I.hok hd
        obtain ⟨od, hod, hl⟩ := lookIn_ns hns
        have J : PySem.W.InstAt s.heap a { cls := .ref (He.ga X.K c), dict := some dx, data := .fields #[.ref t1, .none, .none, .none, .bool false, .none] } (He.ga X.K c) (some od) := ⟨hget, rfl, rfl, hod⟩
        exact PySem.W.kia_one (PySem.W.kitx_X (T c hc)) I.kIn J e (fun z => nomatch z) fun tk => ⟨.bl b, H, I.kept (t' := tk) fun _ _ z => z, rfl, q⟩
section
variable {X : Cx} {W : WX} {a b : Expr} {ma mb : ME} {cs : List Str} {T : Sb} {T2 : List (Str × String × Bool)} {pos p : Pos}
theorem oe_isE (E : ErrL X.K cs) (KT : KtO X.K T) (KB : KtB X.K T2) (hm : X.mg "isinstance" = none) (ha : OE X W a ma) (hb : OE X W b mb) (hg : Gl X "isinstance" := by rfl)
    (hs : starEach [a, b] X.env = (false, eval a X.env) :: starEach [b] X.env := by rfl) (hs2 : starEach [b] X.env = (false, eval b X.env) :: starEach [] X.env := by rfl) (hplain : (backTo pos (starEach [b] X.env)).any (·.1) = false := by rfl) :
    OE X W (.Call (.Name "isinstance" p) [a, b] [] pos) (eIsE cs T T2 ma mb) := by
  obtain ⟨t, q, ha⟩ := ha
  obtain ⟨u, q2, hb⟩ := hb
  refine ⟨_, pe_callB (call_isV E) hg hm (by first | rfl | decide +kernel) (pa_cons q (pa_cons q2 pa_nil hs2) hs) (by decide) (by decide) hs hplain, fun ρ S io F σ H Q st en h => ?_⟩
  refine ha ρ S io F σ H _ st en (RG.bind h fun d S1 io1 F1 H1 v e1 n1 s1 r1 h1 => ?_)
  refine hb ρ S1 io1 F1 σ H1 _ s1 (en.nxt n1) (RG.bind h1 fun k S2 io2 F2 H2 w e2 n2 s2 r2 h2 => ?_)
  have r1 := r1.mono n2.han n2.fr
  cases d with
  | c _ => exact h2.elim
  | p y =>
    cases y with
    | err c ns xs =>
      obtain ⟨x, gs, rfl, hk, hn, hr⟩ := r1
      have ho : H2 x = some (exo x (He.ga X.K c) none) ∨ ∃ dx gs, H2 x = some (exo x (He.ga X.K c) (some dx)) ∧ H2 dx = some (exd dx gs) := by
        rcases hk with ⟨h3, _⟩ | ⟨dx, h3, h4⟩
        · exact .inl (s2.sub _ _ h3)
        · exact .inr ⟨dx, gs, s2.sub _ _ h3, s2.sub _ _ h4⟩
      cases k with
      | c _ => exact h2.elim
      | p z =>
        cases z with
        | glo B =>
          dsimp only at h2
          by_cases q : c ∈ cs
          · rw [if_pos q] at h2
            cases q3 : T.find? fun q => q.1 == c && q.2.1 == B with
            | none => rw [q3] at h2; exact h2.elim
            | some z =>
              rw [q3] at h2
              have hz := List.find?_some q3
              have hmz := List.mem_of_find?_eq_some q3
              rw [Bool.and_eq_true, beq_iff_eq, beq_iff_eq] at hz
              have kt := KT z hmz
              rw [hz.1, hz.2] at kt
              have r2 : w = .ref (He.ga X.K B) := r2
              subst r2
              exact ⟨x, c, _, _, z.2.2, rfl, q, fun u hu => hu, kt, ho, RG.val (R := RepA X.K) (d := .p (.bl z.2.2)) s2 rfl h2⟩
          · rw [if_neg q] at h2; exact h2.elim
        | ty B =>
          dsimp only at h2
          by_cases q : c ∈ cs
          · rw [if_pos q] at h2
            cases q3 : T2.find? fun q => q.1 == c && q.2.1 == B with
            | none => rw [q3] at h2; exact h2.elim
            | some z =>
              rw [q3] at h2
              have hz := List.find?_some q3
              have hmz := List.mem_of_find?_eq_some q3
              rw [Bool.and_eq_true, beq_iff_eq, beq_iff_eq] at hz
              have kt := KB z hmz
              rw [hz.1, hz.2] at kt
              have r2 : w = .ty B := r2
              subst r2
              exact ⟨x, c, _, _, z.2.2, rfl, q, fun u hu => hu, kt, ho, RG.val (R := RepA X.K) (d := .p (.bl z.2.2)) s2 rfl h2⟩
          · rw [if_neg q] at h2; exact h2.elim
        | _ => exact h2.elim
    | _ => exact h2.elim
end
end Mir

namespace L2
open PySem PySem.Spec PyProof.Rows
section
variable {X : Cx}
theorem vals_bl : ∀ {bs : List Bool} {its : List Value}, Vals (bs.map V.bl) its → its = bs.map Value.bool
  | [], its, h => by cases h; rfl
  | b :: bs, its, h => by
    cases h with
    | cons r1 r2 =>
      obtain rfl := (show _ = Value.bool b from r1)
      rw [vals_bl r2]
      rfl
def rCntB (K : PySem.W.Frag) : V → List V → Hp → VK → Prop := fun x xs H Q => ∃ (p : Addr) (bs : List Bool) (k : Bool), x = .ref p ∧ xs = [.bl k] ∧ SqL K H p (bs.map V.bl) ∧ Q (.int (bs.count k : Nat)) H
theorem mt_lcountB : MtR X "list.count" (rCntB X.K) := by
  intro pins s σ H x xs v us Q I rx rxs h
  obtain ⟨p, bs, k, rfl, rfl, hs, q⟩ := h
  cases rx
  obtain ⟨u, rfl, ru⟩ := rxs.one
  obtain rfl : u = Value.bool k := ru
  obtain ⟨its, rv, ⟨⟨cls, dd, data, sl⟩, n, ho, hc, hdn, hd⟩, hlen⟩ := I.list hs
  simp only at hc hd
  subst hc hd
  obtain rfl := vals_bl rv
  refine call_meets PySem.F.slot_list_count ⟨_, ho, rfl⟩ PySem.F.entry_list_count (PySem.F.args_list_count_2 _ _)
    (SeqAt.list_countAt p (bs.map Value.bool).toArray n dd sl (.bool k) (fun u => u == .bool k)) ⟨ho, fun y hy => ?_, ?_⟩
  · have hy : y ∈ bs.map Value.bool := by simpa using hy
    obtain ⟨b, _, rfl⟩ := List.mem_map.mp hy
    have z : SeqAt.EqAt X.A.in1 s (.bool b) (.bool k) (eqV (.bl b) (.bl k)) := eqAt_V (y := .bl b) (x := .bl k) rfl rfl rfl rfl
    have e : eqV (.bl b) (.bl k) = (Value.bool b == Value.bool k) := by cases b <;> cases k <;> rfl
    rw [e] at z
    exact z
  · have ec : (bs.map Value.bool).toArray.toList.countP (fun u => u == .bool k) = bs.count k := by
      show (bs.map Value.bool).countP _ = _
      rw [List.countP_map, List.count]
      congr 1
      funext b
      cases b <;> cases k <;> rfl
    refine ⟨.int (bs.count k : Nat), H, I.tok _, ⟨s.toks, ?_⟩, q⟩
    show Value.int (((bs.map Value.bool).toArray.toList.countP (fun u => u == .bool k) : Nat) : Int) s.toks = _
    rw [ec]
end
end L2
namespace Mir
open PySem L2 PySem.Spec
def pCountB : P → List P → Option P
  | .lst xs, [.bl k] => match blsOf xs with
    | some bs => some (.int (bs.count k : Nat))
    | none => none
  | _, _ => none
section
variable {K : PySem.W.Frag}
theorem ok_countB : CallOk K (rM (rCntB K)) fun xs => match xs with
    | x :: r => pCountB x r
    | [] => none := by
  intro io F S H xs vs z Q st rx e k
  match xs, e with
  | [.lst ys, .bl j], e =>
    obtain ⟨v, w, rfl, r1, r2⟩ := rx.two
    obtain ⟨a, us, rfl, hH, hr⟩ := r1
    have r2 : w = .bl j := r2
    subst r2
    have e : (match blsOf ys with | some ns => some (P.int (ns.count j : Nat)) | none => none) = some z := e
    cases q : blsOf ys with
    | none => rw [q] at e; cases e
    | some ns =>
      rw [q] at e
      cases e
      obtain ⟨rfl, _⟩ := blsOf_rep hr q
      exact ⟨a, ns, j, rfl, rfl, SqL.of hH, k F H _ Nxt.refl st rfl⟩
end
section
variable {X : Cx} {W : WX} {a o : Expr} {ma mo : ME} {pos p apos : Pos}
theorem oe_countB (ho : OE X W o mo) (ha : OE X W a ma) (hbase : attributeBase o "count" X.env (eval o X.env) = eval o X.env := by rfl) (hs : starEach [a] X.env = (false, eval a X.env) :: starEach [] X.env := by rfl) (hline : (apos.endLine == pos.line) = true := by rfl)
    (hfew : ((backTo pos (starEach [a] X.env)).all (fun x => !x.1) && (backToKw pos (keywordEach [] X.env)).all (fun x => x.1.isSome) && decide (([a] : List Expr).length + ([] : List Keyword).length + (if ([] : List Keyword).isEmpty then 0 else 1) < 30)) = true := by rfl) :
    OE X W (.Call (.Attribute o "count" apos) [a] [] pos) (eMthT "list" pCountB mo (aCons ma aNil)) := oe_bm PySem.F.plainAttrs_list PySem.F.slot_list_count PySem.F.type_list_count mt_lcountB ok_countB ho (oa_cons ha oa_nil hs) hbase hfew hline hs rfl
end

def dct0 : P → Bool
  | .dct [] [] => true
  | _ => false
def toQ (x : P) : PyData := if dct0 x then .dict [] else x.toD
def okQ (x : P) : Bool := dct0 x || (x.dat 60 && x.toD.showable)
theorem dct0_eq {x : P} (h : dct0 x = true) : x = .dct [] [] := by
  unfold dct0 at h
  split at h
  · rfl
  · cases h
section
variable {X : Cx} {pins : List (Addr × Obj)} {σ : St} {H : Hp} {s : Shared}
theorem elemO (I : Inv X pins σ H s) {x : P} {v : V} {u : Value} (hx : okQ x = true) (r : Rep X.K H x v) (ru : RelV v u) :
    ∃ as, Reads s.heap u (toQ x) as ∧ ((toQ x).hasDict = true → sysModules ∉ as) ∧ (toQ x).showable = true ∧ (toQ x).depth ≤ 61 := by
  unfold okQ at hx
  unfold toQ
  cases q : dct0 x with
  | true =>
    obtain rfl := dct0_eq q
    obtain ⟨a, kvs, rfl, hH, h1, h2⟩ := r
    have hk : kvs = [] := by
      have := RepL.length h1
      simpa using this
    subst hk
    obtain ⟨_, hsys, xs, hxx, o, es, ep, ho, ⟨hoc, hoe⟩, hd, _, hp, _⟩ := dk_of I.hok hH
    have hxs : xs = [] := by cases hxx; rfl
    subst hxs
    have hes : es.toList = [] := by
      generalize es.toList = l at hp
      cases hp
      rfl
    obtain rfl : u = Value.ref a := ru
    refine ⟨[a], ?_, fun _ hm => ?_, rfl, by simp [PyData.depth, PyData.depthKv]⟩
    · have z : Reads s.heap (.ref a) (.dict []) (a :: [] ++ []) := Reads.dict (kvs := []) ho hoc hd (by rw [hes]; exact .nil) (by rw [hes]; exact .nil)
      exact z
    · rw [List.mem_singleton] at hm
      rw [hm] at hsys
      simp at hsys
  | false =>
    rw [q, Bool.false_or, Bool.and_eq_true] at hx
    obtain ⟨as, rd⟩ := Dp.reads I x.toD v u (Rep.dp hx.1 r) ru
    rw [if_neg Bool.false_ne_true]
    refine ⟨as, rd, fun z => ?_, hx.2, Nat.le_trans (P.dep hx.1) (by decide)⟩
    rw [P.noDict] at z
    cases z
theorem elemsO (I : Inv X pins σ H s) : ∀ {xs : List P} {vs : List V} {us : List Value}, xs.all okQ = true → RepL X.K H xs vs → Vals vs us → (∀ t ∈ PyData.shownAll (xs.map toQ), t.length ≤ sizeLine) →
    ∃ as bs, ReadsAll s.heap us (xs.map toQ) as ∧ ReadAtMost s.heap (PyData.depthAll (xs.map toQ)) bs ∧ ReprAllK X.prog X.w bs s.heap (PyData.depthAll (xs.map toQ)) us (PyData.shownAll (xs.map toQ)) ∧ PyData.depthAll (xs.map toQ) ≤ 61
  | [], vs, us, _, r, ru, _ => by
    have r : _ = _ := r
    subst r
    cases ru
    exact ⟨[], [], .nil, (fun _ h => nomatch h), by show ReprAllK _ _ _ _ _ _ (PyData.shownAll []); rw [PyData.shownAll]; exact .nil, by show PyData.depthAll [] ≤ _; rw [PyData.depthAll]; omega⟩
  | x :: xs, vs, us, hx, ⟨v, w, e1, r1, r2⟩, ru, hz => by
    subst e1
    cases ru with
    | cons q1 q2 =>
      rw [List.all_cons, Bool.and_eq_true] at hx
      have e1 : PyData.shownAll ((x :: xs).map toQ) = (toQ x).shown :: PyData.shownAll (xs.map toQ) := by rw [List.map_cons, PyData.shownAll]
      have e2 : PyData.depthAll ((x :: xs).map toQ) = max (toQ x).depth (PyData.depthAll (xs.map toQ)) := by rw [List.map_cons, PyData.depthAll]
      rw [e1] at hz ⊢
      rw [e2]
      obtain ⟨as, rd, hs, hw, hd⟩ := elemO I hx.1 r1 q1
      obtain ⟨b1, hb1, k1⟩ := ReprK.of_reads (prog := X.prog) (w := X.w) rd hw hs (hz _ List.mem_cons_self)
      obtain ⟨as2, b2, rd2, hb2, k2, hd2⟩ := elemsO I hx.2 r2 q2 (fun t ht => hz t (List.mem_cons_of_mem _ ht))
      exact ⟨as ++ as2, b1 ++ b2, .cons rd rd2, (hb1.mono (Nat.le_max_left _ _)).append (hb2.mono (Nat.le_max_right _ _)), .cons ((k1.more fun b hb => List.mem_append_left _ hb).level_le (Nat.le_max_left _ _)) (k2.more_le (fun b hb => List.mem_append_right _ hb) (Nat.le_max_right _ _)), Nat.max_le.mpr ⟨hd, hd2⟩⟩
end
def shQ (xs : List P) : Str := listText (PyData.shownAll (xs.map toQ))
def reprQ (d : Vl) (S : Sto) : Res Vl := match rd S d with
  | some (.lst xs) => if xs.all okQ && decide ((shQ xs).length ≤ 100000) then .ok (.p (.str (txL (shQ xs)))) S else .bad
  | _ => .bad
def eReprQ (a : ME) : ME := fun ρ S => (a ρ S).bind fun d S1 => reprQ d S1
def rShowQ (K : PySem.W.Frag) : List V → Hp → VK → Prop := fun vs H Q => ∃ (xs : List P) (a : Addr) (ws : List V), vs = [.ref a] ∧ SqL K H a ws ∧ RepL K H xs ws ∧ xs.all okQ = true ∧ (shQ xs).length ≤ 100000 ∧ Q (.str (shQ xs)) H
theorem call_showQ {X : Cx} (U : RoomR X.A) : CallR X (.builtin "repr") (rShowQ X.K) := by
  intro pins s σ H vs us Q I r h
  obtain ⟨xs, a, ws, rfl, hH, hr, hx, hz, q⟩ := h
  obtain ⟨u, rfl, ru⟩ := r.one
  obtain rfl : u = Value.ref a := ru
  obtain ⟨its, rv, ⟨o, n, ho, hc, hdn, hd⟩, hlen⟩ := I.list hH
  have hz2 : (shQ xs).length ≤ sizeLine := Nat.le_trans hz (by decide)
  obtain ⟨as, bs, rd, hb, hk, hdep⟩ := elemsO I hx hr rv (fun t ht => Nat.le_trans (listText_mem_le ht) hz2)
  have r1 : Reads s.heap (.ref a) (.list (xs.map toQ)) (a :: as) := .list ho hc hd rd
  have hna : a ∉ bs := not_mem_of_deeper r1 (by simp only [PyData.depth]; omega) hb
  have fin : ∀ h' u tk, (∀ b o, s.heap.get? b = some o → h'.get? b = some o) → EP X pins σ Q (.str (shQ xs) u) { s with heap := h', toks := tk } := fun h' u tk hk' => ⟨.str (shQ xs), H, I.kept hk', ⟨_, rfl⟩, q⟩
  refine call_repr_slot (by have := U.un; omega) ⟨o, ho, hc⟩ PySem.F.slot_list_repr.toG ?_
  cases its with
  | nil =>
    have e : PyData.shownAll (xs.map toQ) = [] := List.eq_nil_of_length_eq_zero hk.length_eq
    have e2 : shQ xs = "[]" := by unfold shQ; rw [e, listText_nil]
    refine call_list_repr_empty ⟨o, ho, hc⟩ ho hd ⟨_, _, rfl, ?_⟩
    have z := fin s.heap s.toks (s.toks + 1) fun _ _ e => e
    rw [e2] at z
    exact z
  | cons y ys =>
    refine call_list_reprK ho hc hd hna (by simpa using hk.length_eq) (fun i y e => hk.item i y (by simpa using e)) U.gd (fun b _ => Clear.nil b) (by have := U.un; show X.A.units + 1 + _ < _; omega) (fun _ _ e => e) (fun h' u tk hk' => ⟨_, _, rfl, fin h' u tk hk'⟩) hz2
section
variable {X : Cx} {W : WX} {a : Expr} {ma : ME} {pos p : Pos} {k : Nat}
theorem oe_reprQ (hr : RoomG k X.A) (hk : 2 ≤ k) (hm : X.mg "repr" = none) (ha : OE X W a ma) (hg : Gl X "repr" := by rfl) (hs : starEach [a] X.env = (false, eval a X.env) :: starEach [] X.env := by rfl) :
    OE X W (.Call (.Name "repr" p) [a] [] pos) (eReprQ ma) := by
  obtain ⟨t, q, ha⟩ := oa_cons ha oa_nil hs
  refine ⟨_, pe_callB (call_showQ (hr.rr hk)) hg hm (by first | rfl | decide +kernel) q (by decide) (by decide) hs rfl, fun ρ S io F σ H Q st en h => ?_⟩
  have h : RG X.K (RepA X.K) ((aCons ma aNil ρ S).bind fun ds S1 => match ds with
    | [d] => reprQ d S1
    | _ => .bad) io F H Q (fun c d H' => W c d σ H') := by
    unfold eReprQ at h
    unfold aCons aNil
    cases q : ma ρ S with
    | ok d S1 => rw [q] at h; exact h
    | exc c x S1 => rw [q] at h; exact h
    | bad => rw [q] at h; exact h
  refine ha ρ S io F σ H _ st en (RG.bind h fun ds S1 io1 F1 H1 vs e1 n1 s1 r1 h1 => ?_)
  match ds, r1, h1 with
  | [d], r1, h1 =>
    obtain ⟨v, rr, e, r2, r3⟩ := r1
    have r3 : rr = [] := r3
    subst r3 e
    replace h1 : RG X.K (RepA X.K) (reprQ d S1) io1 F1 H1 Q (fun c d H' => W c d σ H') := h1
    unfold reprQ at h1
    cases e : rd S1 d with
    | none => rw [e] at h1; exact h1.elim
    | some x =>
      rw [e] at h1
      cases x with
      | lst xs =>
        dsimp only at h1
        by_cases z : (xs.all okQ && decide ((shQ xs).length ≤ 100000)) = true
        · rw [if_pos z] at h1
          rw [Bool.and_eq_true, decide_eq_true_eq] at z
          obtain ⟨b, ws, rfl, hb, rr⟩ := s1.rd r2 e
          refine ⟨xs, b, ws, rfl, SqL.of hb, RepL.mono s1.sub rr, z.1, z.2, RG.val (R := RepA X.K) (d := .p (.str (txL (shQ xs)))) s1 ?_ h1⟩
          show V.str (shQ xs) = V.str (strOf (txL (shQ xs)))
          rw [txL_strOf]
        · rw [if_neg z] at h1; exact h1.elim
      | _ => exact h1.elim
  | [], _, h1 => exact h1.elim
  | _ :: _ :: _, _, h1 => exact h1.elim
end
end Mir

namespace Law
open PySem L2 Mir

def b__law_ladle : MS := (sSeq (sIf (tVal (eBin (pIB fun i j => decide (j < i)) (eItem (eVar 0) (eC (.int 0))) (eC (.int 0)))) (sSeq (sAsg (eCall pDivmod (aCons (eItem (eVar 0) (eC (.int 0))) (aCons (eVar 1) aNil))) (gTp 2 (gCn (gSubM (eVar 0) (eC (.int 0))) (gCn (gNm 3) gNl)))) (sRet (eVar 3))) sPass) (sSeq (sAsg (eBin pAdd (eItem (eVar 0) (eC (.int 2))) (eC (.int 1))) (gSubM (eVar 0) (eC (.int 2)))) (sSeq (sAsg (eBin (pIC bMod fun i j => i % j) (eCall pInt (aCons (eBin pAdd (eItem (eVar 0) (eC (.int 1))) (eBin pMul (eC (.int 54001)) (eItem (eVar 0) (eC (.int 2))))) aNil)) (eC (.int 2147483323))) (gNm 2)) (sSeq (sAsg (eBin (pIC bMod fun i j => i % j) (eCall pInt (aCons (eBin pAdd (eBin pAdd (eBin pMul (eVar 2) (eBin pAdd (eBin (pIC bMod fun i j => i % j) (eCall pInt (aCons (eVar 2) aNil)) (eC (.int 25013))) (eC (.int 57037)))) (eBin pMul (eC (.int 41)) (eItem (eVar 0) (eC (.int 2))))) (eC (.int 7))) aNil)) (eC (.int 2147483323))) (gSubM (eVar 0) (eC (.int 1)))) (sRet (eBin (pIC bMod fun i j => i % j) (eBin (pIC bDiv fun i j => i / j) (eCall pInt (aCons (eItem (eVar 0) (eC (.int 1))) aNil)) (eC (.int 193))) (eVar 1)))))))
def m__law_ladle : MF := mkF 2 2 b__law_ladle

def b__law_pick : MS := (sRet (eItem (eVar 1) (eFn m__law_ladle (aCons (eVar 0) (aCons (eCall pLen (aCons (eVar 1) aNil)) aNil)))))
def m__law_pick : MF := mkF 2 0 b__law_pick

def b__law_first : MS := (sSeq (sAsg (eLst (aCons (eErr1 "InvalidText" "given" (aCons (eVar 0) aNil)) (aCons (eErr1 "InvalidKind" "given" (aCons (eVar 0) aNil)) (aCons (eErr1 "InvalidSet" "given" (aCons (eVar 0) aNil)) (aCons (eErr1 "InvalidWord" "given" (aCons (eVar 0) aNil)) (aCons (eErr1 "InvalidLetter" "given" (aCons (eVar 0) aNil)) aNil)))))) (gNm 1)) (sSeq (sAsg (eBin pAdd (eVar 1) (eLst (aCons (eErr1 "InvalidNumber" "given" (aCons (eVar 0) aNil)) (aCons (eErr1 "InvalidName" "given" (aCons (eVar 0) aNil)) (aCons (eErr1 "InvalidIndex" "given" (aCons (eVar 0) aNil)) (aCons (eErr1 "InvalidPromise" "given" (aCons (eVar 0) aNil)) aNil)))))) (gNm 1)) (sSeq (sAsg (eBin pAdd (eVar 1) (eLst (aCons (eErr1 "InvalidCommand" "given" (aCons (eVar 0) aNil)) (aCons (eErr1 "NotATerm" "given" (aCons (eVar 0) aNil)) (aCons (eErr1 "NotASpace" "given" (aCons (eVar 0) aNil)) aNil))))) (gNm 1)) (sSeq (sAsg (eLst (aCons (eErr1 "InvalidText" "given" (aCons (eVar 0) aNil)) (aCons (eErr1 "InvalidKind" "given" (aCons (eVar 0) aNil)) (aCons (eErr1 "InvalidSet" "given" (aCons (eVar 0) aNil)) (aCons (eErr1 "InvalidWord" "given" (aCons (eVar 0) aNil)) aNil))))) (gNm 2)) (sSeq (sAsg (eBin pAdd (eVar 2) (eLst (aCons (eErr1 "InvalidLetter" "given" (aCons (eVar 0) aNil)) (aCons (eErr1 "InvalidNumber" "given" (aCons (eVar 0) aNil)) (aCons (eErr1 "InvalidName" "given" (aCons (eVar 0) aNil)) aNil))))) (gNm 2)) (sSeq (sAsg (eBin pAdd (eVar 2) (eLst (aCons (eErr1 "InvalidIndex" "given" (aCons (eVar 0) aNil)) (aCons (eErr1 "InvalidPromise" "given" (aCons (eVar 0) aNil)) (aCons (eErr1 "InvalidCommand" "given" (aCons (eVar 0) aNil)) aNil))))) (gNm 2)) (sRet (eTup (aCons (eVar 1) (aCons (eBin pAdd (eVar 2) (eLst (aCons (eErr1 "NotATerm" "given" (aCons (eVar 0) aNil)) (aCons (eErr1 "NotASpace" "given" (aCons (eVar 0) aNil)) aNil)))) aNil))))))))))
def m__law_first : MF := mkF 1 2 b__law_first

def b__law_flags : MS := (sSeq (sAsg (eLst (aCons (eIsE ecs exO exB (eVar 0) (eC (.glo "InvalidText"))) (aCons (eIsE ecs exO exB (eVar 0) (eC (.glo "InvalidKind"))) (aCons (eIsE ecs exO exB (eVar 0) (eC (.glo "InvalidSet"))) aNil)))) (gNm 1)) (sSeq (sAsg (eBin pAdd (eVar 1) (eLst (aCons (eIsE ecs exO exB (eVar 0) (eC (.glo "InvalidWord"))) (aCons (eIsE ecs exO exB (eVar 0) (eC (.glo "InvalidLetter"))) (aCons (eIsE ecs exO exB (eVar 0) (eC (.glo "InvalidNumber"))) aNil))))) (gNm 1)) (sSeq (sAsg (eBin pAdd (eVar 1) (eLst (aCons (eIsE ecs exO exB (eVar 0) (eC (.glo "InvalidName"))) (aCons (eIsE ecs exO exB (eVar 0) (eC (.glo "InvalidIndex"))) (aCons (eIsE ecs exO exB (eVar 0) (eC (.glo "InvalidPromise"))) aNil))))) (gNm 1)) (sSeq (sAsg (eBin pAdd (eVar 1) (eLst (aCons (eIsE ecs exO exB (eVar 0) (eC (.glo "InvalidCommand"))) (aCons (eIsE ecs exO exB (eVar 0) (eC (.glo "NotATerm"))) (aCons (eIsE ecs exO exB (eVar 0) (eC (.glo "NotASpace"))) aNil))))) (gNm 1)) (sSeq (sAsg (eBin pAdd (eVar 1) (eLst (aCons (eIsE ecs exO exB (eVar 0) (eC (.glo "InvalidPremises"))) (aCons (eIsE ecs exO exB (eVar 0) (eC (.glo "InvalidSets"))) (aCons (eIsE ecs exO exB (eVar 0) (eC (.glo "UnknownName"))) aNil))))) (gNm 1)) (sSeq (sAsg (eBin pAdd (eVar 1) (eLst (aCons (eIsE ecs exO exB (eVar 0) (eC (.glo "Taken"))) (aCons (eIsE ecs exO exB (eVar 0) (eC (.glo "InUse"))) (aCons (eIsE ecs exO exB (eVar 0) (eC (.glo "TooMany"))) (aCons (eIsE ecs exO exB (eVar 0) (eC (.glo "TooLong"))) aNil)))))) (gNm 1)) (sRet (eBin pAdd (eVar 1) (eLst (aCons (eIsE ecs exO exB (eVar 0) (eC (.glo "Alone"))) (aCons (eIsE ecs exO exB (eVar 0) (eC (.glo "NothingToUndo"))) (aCons (eIsE ecs exO exB (eVar 0) (eC (.glo "Broken"))) aNil))))))))))))
def m__law_flags : MF := mkF 1 1 b__law_flags

def b__law_bases : MS := (sSeq (sAsg (eLst (aCons (eIsE ecs exO exB (eVar 0) (eC (.glo "WrongValue"))) (aCons (eIsE ecs exO exB (eVar 0) (eC (.glo "WrongName"))) (aCons (eIsE ecs exO exB (eVar 0) (eC (.glo "NoAnswer"))) aNil)))) (gNm 1)) (sRet (eBin pAdd (eVar 1) (eLst (aCons (eIsE ecs exO exB (eVar 0) (eC (.ty "ValueError"))) (aCons (eIsE ecs exO exB (eVar 0) (eC (.ty "LookupError"))) (aCons (eIsE ecs exO exB (eVar 0) (eC (.ty "ArithmeticError"))) aNil)))))))
def m__law_bases : MF := mkF 1 1 b__law_bases

def b__law_base_right : MS := (sSeq (sFor (itEnum (eVar 0)) (gTp 2 (gCn (gNm 3) (gCn (gNm 4) gNl))) (sSeq (sAsg (eFn m__law_flags (aCons (eVar 4) aNil)) (gNm 5)) (sSeq (sIf (tOrM (tVal (eBin pNe (eMthT "list" pCountB (eVar 5) (aCons (eC (.bl true)) aNil)) (eC (.int 1)))) (tVal (eBin pNe (eMthT "list" pIndexD (eVar 5) (aCons (eC (.bl true)) aNil)) (eBin pAdd (eVar 2) (eVar 3))))) (sRet (eC (.bl false))) sPass) (sIf (tVal (eBin pNe (eFn m__law_bases (aCons (eVar 4) aNil)) (eLc (itRange1 (eC (.int 6))) [6] (gNm 6) tsYes (eBin pEq (eBin (pIC bMod fun i j => i % j) (eVar 6) (eC (.int 3))) (eVar 1))))) (sRet (eC (.bl false))) sPass)))) (sRet (eC (.bl true))))
def m__law_base_right : MF := mkF 3 4 b__law_base_right

def b__law_right : MS := (sSeq (sAsg (eFn m__law_pick (aCons (eVar 0) (aCons (eLst (aCons (eC .non) (aCons (eC (.int 0)) (aCons (eC (.bl true)) (aCons (eC (.str [120])) (aCons (eTup (aCons (eC (.int 1)) (aCons (eC (.str [121])) aNil))) (aCons (eLst (aCons (eC (.int 2)) aNil)) (aCons eDct0 (aCons (eBin (pIC bPow fun i j => i ^ j.toNat) (eC (.int 10)) (eC (.int 59))) (aCons (eTup aNil) (aCons (eUn pNeg (eC (.int 4))) aNil))))))))))) aNil))) (gNm 1)) (sSeq (sAsg (eFn m__law_pick (aCons (eVar 0) (aCons (eLst (aCons (eC .non) (aCons (eC (.int 1)) (aCons (eC (.str [122])) (aCons (eTup (aCons (eTup aNil) aNil)) (aCons (eC (.bl false)) aNil)))))) aNil))) (gNm 2)) (sSeq (sAsg (eFn m__law_first (aCons (eVar 1) aNil)) (gTp 2 (gCn (gNm 9) (gCn (gNm 10) gNl)))) (sSeq (sIf (tVal (eBin pNe (eReprQ (eLc (itOf (eBin pAdd (eVar 9) (eVar 10))) [12] (gNm 12) tsYes (eErf ef_given "given" (eVar 12)))) (eReprQ (eBin pMul (eLst (aCons (eVar 1) aNil)) (eC (.int 24)))))) (sRet (eC (.bl false))) sPass) (sSeq (sAsg (eLst (aCons (eLst (aCons (eErr1 "InvalidPremises" "index" (aCons (eVar 1) aNil)) (aCons (eErr1 "InvalidSets" "index" (aCons (eVar 1) aNil)) aNil))) (aCons (eLst (aCons (eErr1 "InvalidPremises" "index" (aCons (eVar 1) aNil)) (aCons (eErr1 "InvalidSets" "index" (aCons (eVar 1) aNil)) aNil))) aNil))) (gNm 3)) (sSeq (sAsg (eLstC (aCons (eLst (aCons (eErr1 "UnknownName" "given" (aCons (eVar 1) aNil)) (aCons (eErr1 "Taken" "given" (aCons (eVar 1) aNil)) (aCons (eErr1 "InUse" "index" (aCons (eVar 1) aNil)) aNil)))) aNil)) (gNm 4)) (sSeq (sExpr (eMut isL fApp (eVar 4) (aCons (eLst (aCons (eErr1 "UnknownName" "given" (aCons (eVar 1) aNil)) (aCons (eErr1 "Taken" "given" (aCons (eVar 1) aNil)) (aCons (eErr1 "InUse" "index" (aCons (eVar 1) aNil)) aNil)))) aNil))) (sSeq (sAsg (eLstC (aCons (eLst (aCons (eErr1 "TooMany" "limit" (aCons (eVar 1) aNil)) (aCons (eErr1 "TooLong" "limit" (aCons (eVar 1) aNil)) (aCons (eErr0 "Alone") (aCons (eErr0 "NothingToUndo") (aCons (eErr2 "Broken" "index" "shown" (aCons (eVar 1) (aCons (eVar 2) aNil))) aNil)))))) aNil)) (gNm 5)) (sSeq (sExpr (eMut isL fApp (eVar 5) (aCons (eLst (aCons (eErr1 "TooMany" "limit" (aCons (eVar 1) aNil)) (aCons (eErr1 "TooLong" "limit" (aCons (eVar 1) aNil)) (aCons (eErr0 "Alone") (aCons (eErr0 "NothingToUndo") (aCons (eErr2K "Broken" "index" "shown" (aCons (eVar 2) (aCons (eVar 1) aNil))) aNil)))))) aNil))) (sSeq (sFor (itRange1 (eC (.int 2))) (gNm 6) (sSeq (sAsg (eBin pAdd (eLc (itOf (eItem (eVar 3) (eVar 6))) [12] (gNm 12) tsYes (eErf ef_index "index" (eVar 12))) (eLst (aCons (eErf ef_given "given" (eItem (eItem (eVar 4) (eVar 6)) (eC (.int 0)))) (aCons (eErf ef_given "given" (eItem (eItem (eVar 4) (eVar 6)) (eC (.int 1)))) (aCons (eErf ef_index "index" (eItem (eItem (eVar 4) (eVar 6)) (eC (.int 2)))) aNil))))) (gNm 11)) (sSeq (sAsg (eBin pAdd (eVar 11) (eLst (aCons (eErf ef_limit "limit" (eItem (eItem (eVar 5) (eVar 6)) (eC (.int 0)))) (aCons (eErf ef_limit "limit" (eItem (eItem (eVar 5) (eVar 6)) (eC (.int 1)))) (aCons (eErf ef_index "index" (eItem (eItem (eVar 5) (eVar 6)) (eC (.int 4)))) (aCons (eErf ef_shown "shown" (eItem (eItem (eVar 5) (eVar 6)) (eC (.int 4)))) aNil)))))) (gNm 11)) (sSeq (sIf (tVal (eBin pNe (eReprQ (eVar 11)) (eReprQ (eBin pAdd (eBin pMul (eLst (aCons (eVar 1) aNil)) (eC (.int 8))) (eLst (aCons (eVar 2) aNil)))))) (sRet (eC (.bl false))) sPass) (sSeq (sIf (tOrM (tNotM (tVal (eFn m__law_base_right (aCons (eBin pAdd (eItem (eTup (aCons (eVar 9) (aCons (eVar 10) aNil))) (eVar 6)) (eItem (eVar 3) (eVar 6))) (aCons (eC (.int 0)) (aCons (eC (.int 0)) aNil)))))) (tNotM (tVal (eFn m__law_base_right (aCons (eItem (eVar 4) (eVar 6)) (aCons (eC (.int 1)) (aCons (eC (.int 14)) aNil))))))) (sRet (eC (.bl false))) sPass) (sIf (tNotM (tVal (eFn m__law_base_right (aCons (eItem (eVar 5) (eVar 6)) (aCons (eC (.int 2)) (aCons (eC (.int 17)) aNil)))))) (sRet (eC (.bl false))) sPass)))))) (sSeq (sAsg (eLc (itOf (eLst (aCons (eErr0 "WrongValue") (aCons (eErr0 "WrongName") (aCons (eErr0 "NoAnswer") aNil))))) [12] (gNm 12) tsYes (eFn m__law_bases (aCons (eVar 12) aNil))) (gNm 7)) (sSeq (sIf (tVal (eBin pNe (eVar 7) (eLc (itRange1 (eC (.int 3))) [6] (gNm 6) tsYes (eLc (itRange1 (eC (.int 6))) [13] (gNm 13) tsYes (eBin pEq (eBin (pIC bMod fun i j => i % j) (eVar 13) (eC (.int 3))) (eVar 6)))))) (sRet (eC (.bl false))) sPass) (sSeq (sAsg (eLst (aCons (eC (.int 256)) (aCons (eC (.int 300)) (aCons (eC (.int 8)) (aCons (eC (.int 40)) (aCons (eC (.int 4)) (aCons (eC (.int 4)) (aCons (eC (.int 8)) aNil)))))))) (gNm 8)) (sRet (eBin pEq (eReprQ (eVar 8)) (eReprQ (eLst (aCons (eC (.int 256)) (aCons (eC (.int 300)) (aCons (eC (.int 8)) (aCons (eC (.int 40)) (aCons (eC (.int 4)) (aCons (eC (.int 4)) (aCons (eC (.int 8)) aNil))))))))))))))))))))))))
def m__law_right : MF := mkF 1 13 b__law_right

def b__law_urn_of : MS := (sSeq (sPar 2 3 (aCons (eIfM (tVal (eBin bLt (eVar 1) (eCall pLen (aCons (eVar 0) aNil)))) (eItem (eVar 0) (eVar 1)) (eC (.int 0))) (aCons (eBin pAdd (eC (.int 3001)) (eBin pMul (eC (.int 80021)) (eVar 1))) aNil))) (sSeq (sFor (itEnum (eSl (eVar 0) oNo (oYes (eC (.int 7))))) (gTp 2 (gCn (gNm 4) (gCn (gNm 5) gNl))) (sAsg (eBin (pIC bMod fun i j => i % j) (eCall pInt (aCons (eBin pAdd (eBin pMul (eVar 3) (eBin pAdd (eC (.int 24001)) (eBin pMul (eC (.int 26)) (eVar 4)))) (eBin pMul (eC (.int 5)) (eVar 5))) aNil)) (eC (.int 2147483323))) (gNm 3))) (sRet (eLstC (aCons (eIfM (tOrM (tVal (eBin bLt (eVar 2) (eC (.int 0)))) (tVal (eBin (pIB fun i j => decide (j ≤ i)) (eVar 2) (eBin (pIC bPow fun i j => i ^ j.toNat) (eC (.int 10)) (eC (.int 17)))))) (eCall pAbs (aCons (eVar 2) aNil)) (eC (.int 0))) (aCons (eBin (pIC bMod fun i j => i % j) (eCall pInt (aCons (eBin pAdd (eVar 3) (eBin pMul (eC (.int 66029)) (eVar 2))) aNil)) (eC (.int 2147483323))) (aCons (eC (.int 0)) aNil)))))))
def m__law_urn_of : MF := mkK 2 4 b__law_urn_of

def b_law : MS := (sRet (eCall pAll (aCons (eLc (itRange1 (eCall pMax2 (aCons (eC (.int 2)) (aCons (eCall pMin2 (aCons (eCall pLen (aCons (eVar 0) aNil)) (aCons (eC (.int 5)) aNil))) aNil)))) [1] (gNm 1) tsYes (eCut (eFn m__law_right (aCons (eFn m__law_urn_of (aCons (eVar 0) (aCons (eVar 1) aNil))) aNil)))) aNil)))
def m_law : MF := mkF 1 1 b_law
end Law

namespace Law
open PySem L2 Mir
structure Tp (K : PySem.W.Frag) (mg : Str → Option Value) : Prop where
  f_ArithmeticError : mg "ArithmeticError" = none
  f_LookupError : mg "LookupError" = none
  f_ValueError : mg "ValueError" = none
  f_abs : mg "abs" = none
  f_all : mg "all" = none
  f_divmod : mg "divmod" = none
  f_enumerate : mg "enumerate" = none
  f_int : mg "int" = none
  f_isinstance : mg "isinstance" = none
  f_len : mg "len" = none
  f_max : mg "max" = none
  f_min : mg "min" = none
  f_range : mg "range" = none
  f_repr : mg "repr" = none
  v_MOST_LISTED : GV K mg "MOST_LISTED" (.int 4)
  v_MOST_POINTS : GV K mg "MOST_POINTS" (.int 256)
  v_MOST_PREMISES : GV K mg "MOST_PREMISES" (.int 4)
  v_MOST_SIGNS : GV K mg "MOST_SIGNS" (.int 300)
  v_MOST_TRIED : GV K mg "MOST_TRIED" (.int 8)
  v_MOST_WEIGHT : GV K mg "MOST_WEIGHT" (.int 8)
  v_MOST_WORD : GV K mg "MOST_WORD" (.int 40)
  g_Alone : mg "Alone" = some (.ref (He.ga K "Alone"))
  g_Broken : mg "Broken" = some (.ref (He.ga K "Broken"))
  g_InUse : mg "InUse" = some (.ref (He.ga K "InUse"))
  g_InvalidCommand : mg "InvalidCommand" = some (.ref (He.ga K "InvalidCommand"))
  g_InvalidIndex : mg "InvalidIndex" = some (.ref (He.ga K "InvalidIndex"))
  g_InvalidKind : mg "InvalidKind" = some (.ref (He.ga K "InvalidKind"))
  g_InvalidLetter : mg "InvalidLetter" = some (.ref (He.ga K "InvalidLetter"))
  g_InvalidName : mg "InvalidName" = some (.ref (He.ga K "InvalidName"))
  g_InvalidNumber : mg "InvalidNumber" = some (.ref (He.ga K "InvalidNumber"))
  g_InvalidPremises : mg "InvalidPremises" = some (.ref (He.ga K "InvalidPremises"))
  g_InvalidPromise : mg "InvalidPromise" = some (.ref (He.ga K "InvalidPromise"))
  g_InvalidSet : mg "InvalidSet" = some (.ref (He.ga K "InvalidSet"))
  g_InvalidSets : mg "InvalidSets" = some (.ref (He.ga K "InvalidSets"))
  g_InvalidText : mg "InvalidText" = some (.ref (He.ga K "InvalidText"))
  g_InvalidWord : mg "InvalidWord" = some (.ref (He.ga K "InvalidWord"))
  g_NoAnswer : mg "NoAnswer" = some (.ref (He.ga K "NoAnswer"))
  g_NotASpace : mg "NotASpace" = some (.ref (He.ga K "NotASpace"))
  g_NotATerm : mg "NotATerm" = some (.ref (He.ga K "NotATerm"))
  g_NothingToUndo : mg "NothingToUndo" = some (.ref (He.ga K "NothingToUndo"))
  g_Taken : mg "Taken" = some (.ref (He.ga K "Taken"))
  g_TooLong : mg "TooLong" = some (.ref (He.ga K "TooLong"))
  g_TooMany : mg "TooMany" = some (.ref (He.ga K "TooMany"))
  g_UnknownName : mg "UnknownName" = some (.ref (He.ga K "UnknownName"))
  g_WrongName : mg "WrongName" = some (.ref (He.ga K "WrongName"))
  g_WrongValue : mg "WrongValue" = some (.ref (He.ga K "WrongValue"))
  g__law_base_right : mg "_law_base_right" = some (.ref (He.ga K "_law_base_right"))
  g__law_bases : mg "_law_bases" = some (.ref (He.ga K "_law_bases"))
  g__law_first : mg "_law_first" = some (.ref (He.ga K "_law_first"))
  g__law_flags : mg "_law_flags" = some (.ref (He.ga K "_law_flags"))
  g__law_ladle : mg "_law_ladle" = some (.ref (He.ga K "_law_ladle"))
  g__law_pick : mg "_law_pick" = some (.ref (He.ga K "_law_pick"))
  g__law_right : mg "_law_right" = some (.ref (He.ga K "_law_right"))
  g__law_urn_of : mg "_law_urn_of" = some (.ref (He.ga K "_law_urn_of"))
  g_law : mg "law" = some (.ref (He.ga K "law"))
  x0_Alone : XC0 K "Alone"
  x0_NoAnswer : XC0 K "NoAnswer"
  x0_NothingToUndo : XC0 K "NothingToUndo"
  x0_WrongName : XC0 K "WrongName"
  x0_WrongValue : XC0 K "WrongValue"
  xk_Broken : ExK K "Broken"
  xk_InUse : ExK K "InUse"
  xk_InvalidCommand : ExK K "InvalidCommand"
  xk_InvalidIndex : ExK K "InvalidIndex"
  xk_InvalidKind : ExK K "InvalidKind"
  xk_InvalidLetter : ExK K "InvalidLetter"
  xk_InvalidName : ExK K "InvalidName"
  xk_InvalidNumber : ExK K "InvalidNumber"
  xk_InvalidPremises : ExK K "InvalidPremises"
  xk_InvalidPromise : ExK K "InvalidPromise"
  xk_InvalidSet : ExK K "InvalidSet"
  xk_InvalidSets : ExK K "InvalidSets"
  xk_InvalidText : ExK K "InvalidText"
  xk_InvalidWord : ExK K "InvalidWord"
  xk_NotASpace : ExK K "NotASpace"
  xk_NotATerm : ExK K "NotATerm"
  xk_Taken : ExK K "Taken"
  xk_TooLong : ExK K "TooLong"
  xk_TooMany : ExK K "TooMany"
  xk_UnknownName : ExK K "UnknownName"
  xi_InUse : ExI K "InUse"
  xi_InvalidCommand : ExI K "InvalidCommand"
  xi_InvalidIndex : ExI K "InvalidIndex"
  xi_InvalidKind : ExI K "InvalidKind"
  xi_InvalidLetter : ExI K "InvalidLetter"
  xi_InvalidName : ExI K "InvalidName"
  xi_InvalidNumber : ExI K "InvalidNumber"
  xi_InvalidPremises : ExI K "InvalidPremises"
  xi_InvalidPromise : ExI K "InvalidPromise"
  xi_InvalidSet : ExI K "InvalidSet"
  xi_InvalidSets : ExI K "InvalidSets"
  xi_InvalidText : ExI K "InvalidText"
  xi_InvalidWord : ExI K "InvalidWord"
  xi_NotASpace : ExI K "NotASpace"
  xi_NotATerm : ExI K "NotATerm"
  xi_Taken : ExI K "Taken"
  xi_TooLong : ExI K "TooLong"
  xi_TooMany : ExI K "TooMany"
  xi_UnknownName : ExI K "UnknownName"
  xi_Broken : ExI K "Broken"
  xn_Broken_index : ExN K "Broken" "index"
  xn_Broken_shown : ExN K "Broken" "shown"
  xn_InUse_index : ExN K "InUse" "index"
  xn_InvalidCommand_given : ExN K "InvalidCommand" "given"
  xn_InvalidIndex_given : ExN K "InvalidIndex" "given"
  xn_InvalidKind_given : ExN K "InvalidKind" "given"
  xn_InvalidLetter_given : ExN K "InvalidLetter" "given"
  xn_InvalidName_given : ExN K "InvalidName" "given"
  xn_InvalidNumber_given : ExN K "InvalidNumber" "given"
  xn_InvalidPremises_index : ExN K "InvalidPremises" "index"
  xn_InvalidPromise_given : ExN K "InvalidPromise" "given"
  xn_InvalidSet_given : ExN K "InvalidSet" "given"
  xn_InvalidSets_index : ExN K "InvalidSets" "index"
  xn_InvalidText_given : ExN K "InvalidText" "given"
  xn_InvalidWord_given : ExN K "InvalidWord" "given"
  xn_NotASpace_given : ExN K "NotASpace" "given"
  xn_NotATerm_given : ExN K "NotATerm" "given"
  xn_Taken_given : ExN K "Taken" "given"
  xn_TooLong_limit : ExN K "TooLong" "limit"
  xn_TooMany_limit : ExN K "TooMany" "limit"
  xn_UnknownName_given : ExN K "UnknownName" "given"
  el : ErrL K ecs
  ko : KtO K exO
  kb : KtB K exB
  ef_given : ErrF K ef_given "given"
  ef_index : ErrF K ef_index "index"
  ef_limit : ErrF K ef_limit "limit"
  ef_shown : ErrF K ef_shown "shown"
  isi : IsiC K isiCs
  d__law_ladle : ∃ fd, FunD K "_law_ladle" "_law_ladle" (defArgs s__law_ladle) (defBody s__law_ladle) (defScope s__law_ladle) [] [] (He.ga K "_law_ladle") fd
  d__law_pick : ∃ fd, FunD K "_law_pick" "_law_pick" (defArgs s__law_pick) (defBody s__law_pick) (defScope s__law_pick) [] [] (He.ga K "_law_pick") fd
  d__law_first : ∃ fd, FunD K "_law_first" "_law_first" (defArgs s__law_first) (defBody s__law_first) (defScope s__law_first) [] [] (He.ga K "_law_first") fd
  d__law_flags : ∃ fd, FunD K "_law_flags" "_law_flags" (defArgs s__law_flags) (defBody s__law_flags) (defScope s__law_flags) [] [] (He.ga K "_law_flags") fd
  d__law_bases : ∃ fd, FunD K "_law_bases" "_law_bases" (defArgs s__law_bases) (defBody s__law_bases) (defScope s__law_bases) [] [] (He.ga K "_law_bases") fd
  d__law_base_right : ∃ fd, FunD K "_law_base_right" "_law_base_right" (defArgs s__law_base_right) (defBody s__law_base_right) (defScope s__law_base_right) [] [] (He.ga K "_law_base_right") fd
  d__law_right : ∃ fd, FunD K "_law_right" "_law_right" (defArgs s__law_right) (defBody s__law_right) (defScope s__law_right) [] [] (He.ga K "_law_right") fd
  d__law_urn_of : ∃ fd, FunD K "_law_urn_of" "_law_urn_of" (defArgs s__law_urn_of) (defBody s__law_urn_of) (defScope s__law_urn_of) [] [] (He.ga K "_law_urn_of") fd
  d_law : ∃ fd, FunD K "law" "law" (defArgs s_law) (defBody s_law) (defScope s_law) [] [] (He.ga K "law") fd
  d_InUse___init__ : ∃ fd, FunD K "__init__" "InUse.__init__" (defArgs s_InUse___init__) (defBody s_InUse___init__) (defScope s_InUse___init__) [] [] (He.ma K (He.ga K "InUse") "__init__") fd
  d_InvalidCommand___init__ : ∃ fd, FunD K "__init__" "InvalidCommand.__init__" (defArgs s_InvalidCommand___init__) (defBody s_InvalidCommand___init__) (defScope s_InvalidCommand___init__) [] [] (He.ma K (He.ga K "InvalidCommand") "__init__") fd
  d_InvalidIndex___init__ : ∃ fd, FunD K "__init__" "InvalidIndex.__init__" (defArgs s_InvalidIndex___init__) (defBody s_InvalidIndex___init__) (defScope s_InvalidIndex___init__) [] [] (He.ma K (He.ga K "InvalidIndex") "__init__") fd
  d_InvalidKind___init__ : ∃ fd, FunD K "__init__" "InvalidKind.__init__" (defArgs s_InvalidKind___init__) (defBody s_InvalidKind___init__) (defScope s_InvalidKind___init__) [] [] (He.ma K (He.ga K "InvalidKind") "__init__") fd
  d_InvalidLetter___init__ : ∃ fd, FunD K "__init__" "InvalidLetter.__init__" (defArgs s_InvalidLetter___init__) (defBody s_InvalidLetter___init__) (defScope s_InvalidLetter___init__) [] [] (He.ma K (He.ga K "InvalidLetter") "__init__") fd
  d_InvalidName___init__ : ∃ fd, FunD K "__init__" "InvalidName.__init__" (defArgs s_InvalidName___init__) (defBody s_InvalidName___init__) (defScope s_InvalidName___init__) [] [] (He.ma K (He.ga K "InvalidName") "__init__") fd
  d_InvalidNumber___init__ : ∃ fd, FunD K "__init__" "InvalidNumber.__init__" (defArgs s_InvalidNumber___init__) (defBody s_InvalidNumber___init__) (defScope s_InvalidNumber___init__) [] [] (He.ma K (He.ga K "InvalidNumber") "__init__") fd
  d_InvalidPremises___init__ : ∃ fd, FunD K "__init__" "InvalidPremises.__init__" (defArgs s_InvalidPremises___init__) (defBody s_InvalidPremises___init__) (defScope s_InvalidPremises___init__) [] [] (He.ma K (He.ga K "InvalidPremises") "__init__") fd
  d_InvalidPromise___init__ : ∃ fd, FunD K "__init__" "InvalidPromise.__init__" (defArgs s_InvalidPromise___init__) (defBody s_InvalidPromise___init__) (defScope s_InvalidPromise___init__) [] [] (He.ma K (He.ga K "InvalidPromise") "__init__") fd
  d_InvalidSet___init__ : ∃ fd, FunD K "__init__" "InvalidSet.__init__" (defArgs s_InvalidSet___init__) (defBody s_InvalidSet___init__) (defScope s_InvalidSet___init__) [] [] (He.ma K (He.ga K "InvalidSet") "__init__") fd
  d_InvalidSets___init__ : ∃ fd, FunD K "__init__" "InvalidSets.__init__" (defArgs s_InvalidSets___init__) (defBody s_InvalidSets___init__) (defScope s_InvalidSets___init__) [] [] (He.ma K (He.ga K "InvalidSets") "__init__") fd
  d_InvalidText___init__ : ∃ fd, FunD K "__init__" "InvalidText.__init__" (defArgs s_InvalidText___init__) (defBody s_InvalidText___init__) (defScope s_InvalidText___init__) [] [] (He.ma K (He.ga K "InvalidText") "__init__") fd
  d_InvalidWord___init__ : ∃ fd, FunD K "__init__" "InvalidWord.__init__" (defArgs s_InvalidWord___init__) (defBody s_InvalidWord___init__) (defScope s_InvalidWord___init__) [] [] (He.ma K (He.ga K "InvalidWord") "__init__") fd
  d_NotASpace___init__ : ∃ fd, FunD K "__init__" "NotASpace.__init__" (defArgs s_NotASpace___init__) (defBody s_NotASpace___init__) (defScope s_NotASpace___init__) [] [] (He.ma K (He.ga K "NotASpace") "__init__") fd
  d_NotATerm___init__ : ∃ fd, FunD K "__init__" "NotATerm.__init__" (defArgs s_NotATerm___init__) (defBody s_NotATerm___init__) (defScope s_NotATerm___init__) [] [] (He.ma K (He.ga K "NotATerm") "__init__") fd
  d_Taken___init__ : ∃ fd, FunD K "__init__" "Taken.__init__" (defArgs s_Taken___init__) (defBody s_Taken___init__) (defScope s_Taken___init__) [] [] (He.ma K (He.ga K "Taken") "__init__") fd
  d_TooLong___init__ : ∃ fd, FunD K "__init__" "TooLong.__init__" (defArgs s_TooLong___init__) (defBody s_TooLong___init__) (defScope s_TooLong___init__) [] [] (He.ma K (He.ga K "TooLong") "__init__") fd
  d_TooMany___init__ : ∃ fd, FunD K "__init__" "TooMany.__init__" (defArgs s_TooMany___init__) (defBody s_TooMany___init__) (defScope s_TooMany___init__) [] [] (He.ma K (He.ga K "TooMany") "__init__") fd
  d_UnknownName___init__ : ∃ fd, FunD K "__init__" "UnknownName.__init__" (defArgs s_UnknownName___init__) (defBody s_UnknownName___init__) (defScope s_UnknownName___init__) [] [] (He.ma K (He.ga K "UnknownName") "__init__") fd
  d_Broken___init__ : ∃ fd, FunD K "__init__" "Broken.__init__" (defArgs s_Broken___init__) (defBody s_Broken___init__) (defScope s_Broken___init__) [] [] (He.ma K (He.ga K "Broken") "__init__") fd
section
variable {P : Program} {w : World} {K : PySem.W.Frag} {mg : Str → Option Value} {base : Heap}
theorem sc_InUse___init__ : FnScope ["self", "index"] ["self", "index"] (defScope s_InUse___init__) := ⟨rfl, rfl, rfl, by decide +kernel, rfl, by decide +kernel, by decide +kernel⟩
theorem sc_InvalidCommand___init__ : FnScope ["self", "given"] ["self", "given"] (defScope s_InvalidCommand___init__) := ⟨rfl, rfl, rfl, by decide +kernel, rfl, by decide +kernel, by decide +kernel⟩
theorem sc_InvalidIndex___init__ : FnScope ["self", "given"] ["self", "given"] (defScope s_InvalidIndex___init__) := ⟨rfl, rfl, rfl, by decide +kernel, rfl, by decide +kernel, by decide +kernel⟩
theorem sc_InvalidKind___init__ : FnScope ["self", "given"] ["self", "given"] (defScope s_InvalidKind___init__) := ⟨rfl, rfl, rfl, by decide +kernel, rfl, by decide +kernel, by decide +kernel⟩
theorem sc_InvalidLetter___init__ : FnScope ["self", "given"] ["self", "given"] (defScope s_InvalidLetter___init__) := ⟨rfl, rfl, rfl, by decide +kernel, rfl, by decide +kernel, by decide +kernel⟩
theorem sc_InvalidName___init__ : FnScope ["self", "given"] ["self", "given"] (defScope s_InvalidName___init__) := ⟨rfl, rfl, rfl, by decide +kernel, rfl, by decide +kernel, by decide +kernel⟩
theorem sc_InvalidNumber___init__ : FnScope ["self", "given"] ["self", "given"] (defScope s_InvalidNumber___init__) := ⟨rfl, rfl, rfl, by decide +kernel, rfl, by decide +kernel, by decide +kernel⟩
theorem sc_InvalidPremises___init__ : FnScope ["self", "index"] ["self", "index"] (defScope s_InvalidPremises___init__) := ⟨rfl, rfl, rfl, by decide +kernel, rfl, by decide +kernel, by decide +kernel⟩
theorem sc_InvalidPromise___init__ : FnScope ["self", "given"] ["self", "given"] (defScope s_InvalidPromise___init__) := ⟨rfl, rfl, rfl, by decide +kernel, rfl, by decide +kernel, by decide +kernel⟩
theorem sc_InvalidSet___init__ : FnScope ["self", "given"] ["self", "given"] (defScope s_InvalidSet___init__) := ⟨rfl, rfl, rfl, by decide +kernel, rfl, by decide +kernel, by decide +kernel⟩
theorem sc_InvalidSets___init__ : FnScope ["self", "index"] ["self", "index"] (defScope s_InvalidSets___init__) := ⟨rfl, rfl, rfl, by decide +kernel, rfl, by decide +kernel, by decide +kernel⟩
theorem sc_InvalidText___init__ : FnScope ["self", "given"] ["self", "given"] (defScope s_InvalidText___init__) := ⟨rfl, rfl, rfl, by decide +kernel, rfl, by decide +kernel, by decide +kernel⟩
theorem sc_InvalidWord___init__ : FnScope ["self", "given"] ["self", "given"] (defScope s_InvalidWord___init__) := ⟨rfl, rfl, rfl, by decide +kernel, rfl, by decide +kernel, by decide +kernel⟩
theorem sc_NotASpace___init__ : FnScope ["self", "given"] ["self", "given"] (defScope s_NotASpace___init__) := ⟨rfl, rfl, rfl, by decide +kernel, rfl, by decide +kernel, by decide +kernel⟩
theorem sc_NotATerm___init__ : FnScope ["self", "given"] ["self", "given"] (defScope s_NotATerm___init__) := ⟨rfl, rfl, rfl, by decide +kernel, rfl, by decide +kernel, by decide +kernel⟩
theorem sc_Taken___init__ : FnScope ["self", "given"] ["self", "given"] (defScope s_Taken___init__) := ⟨rfl, rfl, rfl, by decide +kernel, rfl, by decide +kernel, by decide +kernel⟩
theorem sc_TooLong___init__ : FnScope ["self", "limit"] ["self", "limit"] (defScope s_TooLong___init__) := ⟨rfl, rfl, rfl, by decide +kernel, rfl, by decide +kernel, by decide +kernel⟩
theorem sc_TooMany___init__ : FnScope ["self", "limit"] ["self", "limit"] (defScope s_TooMany___init__) := ⟨rfl, rfl, rfl, by decide +kernel, rfl, by decide +kernel, by decide +kernel⟩
theorem sc_UnknownName___init__ : FnScope ["self", "given"] ["self", "given"] (defScope s_UnknownName___init__) := ⟨rfl, rfl, rfl, by decide +kernel, rfl, by decide +kernel, by decide +kernel⟩
theorem xv_InUse (T : Tp K mg) : XV P w K mg base "InUse" (defArgs s_InUse___init__) ["self", "index"] (spXI (He.ga K "InUse") "index") 1 := by
  obtain ⟨fd, F⟩ := T.d_InUse___init__
  exact ⟨T.g_InUse, T.xk_InUse.oex, _, fd, T.xi_InUse.ini, T.xi_InUse.ty, fn_xinit F sc_InUse___init__ T.xk_InUse.oex T.xn_InUse_index rfl (by first | exact Or.inl rfl | exact Or.inr (Or.inl rfl) | exact Or.inr (Or.inr rfl)) (by first | exact Or.inl rfl | exact Or.inr (Or.inl rfl) | exact Or.inr (Or.inr rfl)), FunD.bindsN F (fun _ _ _ _ _ _ us hl => match us, hl with | [_, _], _ => rfl), Mir.FunD.hasPar F⟩
theorem xv_InvalidCommand (T : Tp K mg) : XV P w K mg base "InvalidCommand" (defArgs s_InvalidCommand___init__) ["self", "given"] (spXI (He.ga K "InvalidCommand") "given") 1 := by
  obtain ⟨fd, F⟩ := T.d_InvalidCommand___init__
  exact ⟨T.g_InvalidCommand, T.xk_InvalidCommand.oex, _, fd, T.xi_InvalidCommand.ini, T.xi_InvalidCommand.ty, fn_xinit F sc_InvalidCommand___init__ T.xk_InvalidCommand.oex T.xn_InvalidCommand_given rfl (by first | exact Or.inl rfl | exact Or.inr (Or.inl rfl) | exact Or.inr (Or.inr rfl)) (by first | exact Or.inl rfl | exact Or.inr (Or.inl rfl) | exact Or.inr (Or.inr rfl)), FunD.bindsN F (fun _ _ _ _ _ _ us hl => match us, hl with | [_, _], _ => rfl), Mir.FunD.hasPar F⟩
theorem xv_InvalidIndex (T : Tp K mg) : XV P w K mg base "InvalidIndex" (defArgs s_InvalidIndex___init__) ["self", "given"] (spXI (He.ga K "InvalidIndex") "given") 1 := by
  obtain ⟨fd, F⟩ := T.d_InvalidIndex___init__
  exact ⟨T.g_InvalidIndex, T.xk_InvalidIndex.oex, _, fd, T.xi_InvalidIndex.ini, T.xi_InvalidIndex.ty, fn_xinit F sc_InvalidIndex___init__ T.xk_InvalidIndex.oex T.xn_InvalidIndex_given rfl (by first | exact Or.inl rfl | exact Or.inr (Or.inl rfl) | exact Or.inr (Or.inr rfl)) (by first | exact Or.inl rfl | exact Or.inr (Or.inl rfl) | exact Or.inr (Or.inr rfl)), FunD.bindsN F (fun _ _ _ _ _ _ us hl => match us, hl with | [_, _], _ => rfl), Mir.FunD.hasPar F⟩
theorem xv_InvalidKind (T : Tp K mg) : XV P w K mg base "InvalidKind" (defArgs s_InvalidKind___init__) ["self", "given"] (spXI (He.ga K "InvalidKind") "given") 1 := by
  obtain ⟨fd, F⟩ := T.d_InvalidKind___init__
  exact ⟨T.g_InvalidKind, T.xk_InvalidKind.oex, _, fd, T.xi_InvalidKind.ini, T.xi_InvalidKind.ty, fn_xinit F sc_InvalidKind___init__ T.xk_InvalidKind.oex T.xn_InvalidKind_given rfl (by first | exact Or.inl rfl | exact Or.inr (Or.inl rfl) | exact Or.inr (Or.inr rfl)) (by first | exact Or.inl rfl | exact Or.inr (Or.inl rfl) | exact Or.inr (Or.inr rfl)), FunD.bindsN F (fun _ _ _ _ _ _ us hl => match us, hl with | [_, _], _ => rfl), Mir.FunD.hasPar F⟩
theorem xv_InvalidLetter (T : Tp K mg) : XV P w K mg base "InvalidLetter" (defArgs s_InvalidLetter___init__) ["self", "given"] (spXI (He.ga K "InvalidLetter") "given") 1 := by
  obtain ⟨fd, F⟩ := T.d_InvalidLetter___init__
  exact ⟨T.g_InvalidLetter, T.xk_InvalidLetter.oex, _, fd, T.xi_InvalidLetter.ini, T.xi_InvalidLetter.ty, fn_xinit F sc_InvalidLetter___init__ T.xk_InvalidLetter.oex T.xn_InvalidLetter_given rfl (by first | exact Or.inl rfl | exact Or.inr (Or.inl rfl) | exact Or.inr (Or.inr rfl)) (by first | exact Or.inl rfl | exact Or.inr (Or.inl rfl) | exact Or.inr (Or.inr rfl)), FunD.bindsN F (fun _ _ _ _ _ _ us hl => match us, hl with | [_, _], _ => rfl), Mir.FunD.hasPar F⟩
theorem xv_InvalidName (T : Tp K mg) : XV P w K mg base "InvalidName" (defArgs s_InvalidName___init__) ["self", "given"] (spXI (He.ga K "InvalidName") "given") 1 := by
  obtain ⟨fd, F⟩ := T.d_InvalidName___init__
  exact ⟨T.g_InvalidName, T.xk_InvalidName.oex, _, fd, T.xi_InvalidName.ini, T.xi_InvalidName.ty, fn_xinit F sc_InvalidName___init__ T.xk_InvalidName.oex T.xn_InvalidName_given rfl (by first | exact Or.inl rfl | exact Or.inr (Or.inl rfl) | exact Or.inr (Or.inr rfl)) (by first | exact Or.inl rfl | exact Or.inr (Or.inl rfl) | exact Or.inr (Or.inr rfl)), FunD.bindsN F (fun _ _ _ _ _ _ us hl => match us, hl with | [_, _], _ => rfl), Mir.FunD.hasPar F⟩
theorem xv_InvalidNumber (T : Tp K mg) : XV P w K mg base "InvalidNumber" (defArgs s_InvalidNumber___init__) ["self", "given"] (spXI (He.ga K "InvalidNumber") "given") 1 := by
  obtain ⟨fd, F⟩ := T.d_InvalidNumber___init__
  exact ⟨T.g_InvalidNumber, T.xk_InvalidNumber.oex, _, fd, T.xi_InvalidNumber.ini, T.xi_InvalidNumber.ty, fn_xinit F sc_InvalidNumber___init__ T.xk_InvalidNumber.oex T.xn_InvalidNumber_given rfl (by first | exact Or.inl rfl | exact Or.inr (Or.inl rfl) | exact Or.inr (Or.inr rfl)) (by first | exact Or.inl rfl | exact Or.inr (Or.inl rfl) | exact Or.inr (Or.inr rfl)), FunD.bindsN F (fun _ _ _ _ _ _ us hl => match us, hl with | [_, _], _ => rfl), Mir.FunD.hasPar F⟩
theorem xv_InvalidPremises (T : Tp K mg) : XV P w K mg base "InvalidPremises" (defArgs s_InvalidPremises___init__) ["self", "index"] (spXI (He.ga K "InvalidPremises") "index") 1 := by
  obtain ⟨fd, F⟩ := T.d_InvalidPremises___init__
  exact ⟨T.g_InvalidPremises, T.xk_InvalidPremises.oex, _, fd, T.xi_InvalidPremises.ini, T.xi_InvalidPremises.ty, fn_xinit F sc_InvalidPremises___init__ T.xk_InvalidPremises.oex T.xn_InvalidPremises_index rfl (by first | exact Or.inl rfl | exact Or.inr (Or.inl rfl) | exact Or.inr (Or.inr rfl)) (by first | exact Or.inl rfl | exact Or.inr (Or.inl rfl) | exact Or.inr (Or.inr rfl)), FunD.bindsN F (fun _ _ _ _ _ _ us hl => match us, hl with | [_, _], _ => rfl), Mir.FunD.hasPar F⟩
theorem xv_InvalidPromise (T : Tp K mg) : XV P w K mg base "InvalidPromise" (defArgs s_InvalidPromise___init__) ["self", "given"] (spXI (He.ga K "InvalidPromise") "given") 1 := by
  obtain ⟨fd, F⟩ := T.d_InvalidPromise___init__
  exact ⟨T.g_InvalidPromise, T.xk_InvalidPromise.oex, _, fd, T.xi_InvalidPromise.ini, T.xi_InvalidPromise.ty, fn_xinit F sc_InvalidPromise___init__ T.xk_InvalidPromise.oex T.xn_InvalidPromise_given rfl (by first | exact Or.inl rfl | exact Or.inr (Or.inl rfl) | exact Or.inr (Or.inr rfl)) (by first | exact Or.inl rfl | exact Or.inr (Or.inl rfl) | exact Or.inr (Or.inr rfl)), FunD.bindsN F (fun _ _ _ _ _ _ us hl => match us, hl with | [_, _], _ => rfl), Mir.FunD.hasPar F⟩
theorem xv_InvalidSet (T : Tp K mg) : XV P w K mg base "InvalidSet" (defArgs s_InvalidSet___init__) ["self", "given"] (spXI (He.ga K "InvalidSet") "given") 1 := by
  obtain ⟨fd, F⟩ := T.d_InvalidSet___init__
  exact ⟨T.g_InvalidSet, T.xk_InvalidSet.oex, _, fd, T.xi_InvalidSet.ini, T.xi_InvalidSet.ty, fn_xinit F sc_InvalidSet___init__ T.xk_InvalidSet.oex T.xn_InvalidSet_given rfl (by first | exact Or.inl rfl | exact Or.inr (Or.inl rfl) | exact Or.inr (Or.inr rfl)) (by first | exact Or.inl rfl | exact Or.inr (Or.inl rfl) | exact Or.inr (Or.inr rfl)), FunD.bindsN F (fun _ _ _ _ _ _ us hl => match us, hl with | [_, _], _ => rfl), Mir.FunD.hasPar F⟩
theorem xv_InvalidSets (T : Tp K mg) : XV P w K mg base "InvalidSets" (defArgs s_InvalidSets___init__) ["self", "index"] (spXI (He.ga K "InvalidSets") "index") 1 := by
  obtain ⟨fd, F⟩ := T.d_InvalidSets___init__
  exact ⟨T.g_InvalidSets, T.xk_InvalidSets.oex, _, fd, T.xi_InvalidSets.ini, T.xi_InvalidSets.ty, fn_xinit F sc_InvalidSets___init__ T.xk_InvalidSets.oex T.xn_InvalidSets_index rfl (by first | exact Or.inl rfl | exact Or.inr (Or.inl rfl) | exact Or.inr (Or.inr rfl)) (by first | exact Or.inl rfl | exact Or.inr (Or.inl rfl) | exact Or.inr (Or.inr rfl)), FunD.bindsN F (fun _ _ _ _ _ _ us hl => match us, hl with | [_, _], _ => rfl), Mir.FunD.hasPar F⟩
theorem xv_InvalidText (T : Tp K mg) : XV P w K mg base "InvalidText" (defArgs s_InvalidText___init__) ["self", "given"] (spXI (He.ga K "InvalidText") "given") 1 := by
  obtain ⟨fd, F⟩ := T.d_InvalidText___init__
  exact ⟨T.g_InvalidText, T.xk_InvalidText.oex, _, fd, T.xi_InvalidText.ini, T.xi_InvalidText.ty, fn_xinit F sc_InvalidText___init__ T.xk_InvalidText.oex T.xn_InvalidText_given rfl (by first | exact Or.inl rfl | exact Or.inr (Or.inl rfl) | exact Or.inr (Or.inr rfl)) (by first | exact Or.inl rfl | exact Or.inr (Or.inl rfl) | exact Or.inr (Or.inr rfl)), FunD.bindsN F (fun _ _ _ _ _ _ us hl => match us, hl with | [_, _], _ => rfl), Mir.FunD.hasPar F⟩
theorem xv_InvalidWord (T : Tp K mg) : XV P w K mg base "InvalidWord" (defArgs s_InvalidWord___init__) ["self", "given"] (spXI (He.ga K "InvalidWord") "given") 1 := by
  obtain ⟨fd, F⟩ := T.d_InvalidWord___init__
  exact ⟨T.g_InvalidWord, T.xk_InvalidWord.oex, _, fd, T.xi_InvalidWord.ini, T.xi_InvalidWord.ty, fn_xinit F sc_InvalidWord___init__ T.xk_InvalidWord.oex T.xn_InvalidWord_given rfl (by first | exact Or.inl rfl | exact Or.inr (Or.inl rfl) | exact Or.inr (Or.inr rfl)) (by first | exact Or.inl rfl | exact Or.inr (Or.inl rfl) | exact Or.inr (Or.inr rfl)), FunD.bindsN F (fun _ _ _ _ _ _ us hl => match us, hl with | [_, _], _ => rfl), Mir.FunD.hasPar F⟩
theorem xv_NotASpace (T : Tp K mg) : XV P w K mg base "NotASpace" (defArgs s_NotASpace___init__) ["self", "given"] (spXI (He.ga K "NotASpace") "given") 1 := by
  obtain ⟨fd, F⟩ := T.d_NotASpace___init__
  exact ⟨T.g_NotASpace, T.xk_NotASpace.oex, _, fd, T.xi_NotASpace.ini, T.xi_NotASpace.ty, fn_xinit F sc_NotASpace___init__ T.xk_NotASpace.oex T.xn_NotASpace_given rfl (by first | exact Or.inl rfl | exact Or.inr (Or.inl rfl) | exact Or.inr (Or.inr rfl)) (by first | exact Or.inl rfl | exact Or.inr (Or.inl rfl) | exact Or.inr (Or.inr rfl)), FunD.bindsN F (fun _ _ _ _ _ _ us hl => match us, hl with | [_, _], _ => rfl), Mir.FunD.hasPar F⟩
theorem xv_NotATerm (T : Tp K mg) : XV P w K mg base "NotATerm" (defArgs s_NotATerm___init__) ["self", "given"] (spXI (He.ga K "NotATerm") "given") 1 := by
  obtain ⟨fd, F⟩ := T.d_NotATerm___init__
  exact ⟨T.g_NotATerm, T.xk_NotATerm.oex, _, fd, T.xi_NotATerm.ini, T.xi_NotATerm.ty, fn_xinit F sc_NotATerm___init__ T.xk_NotATerm.oex T.xn_NotATerm_given rfl (by first | exact Or.inl rfl | exact Or.inr (Or.inl rfl) | exact Or.inr (Or.inr rfl)) (by first | exact Or.inl rfl | exact Or.inr (Or.inl rfl) | exact Or.inr (Or.inr rfl)), FunD.bindsN F (fun _ _ _ _ _ _ us hl => match us, hl with | [_, _], _ => rfl), Mir.FunD.hasPar F⟩
theorem xv_Taken (T : Tp K mg) : XV P w K mg base "Taken" (defArgs s_Taken___init__) ["self", "given"] (spXI (He.ga K "Taken") "given") 1 := by
  obtain ⟨fd, F⟩ := T.d_Taken___init__
  exact ⟨T.g_Taken, T.xk_Taken.oex, _, fd, T.xi_Taken.ini, T.xi_Taken.ty, fn_xinit F sc_Taken___init__ T.xk_Taken.oex T.xn_Taken_given rfl (by first | exact Or.inl rfl | exact Or.inr (Or.inl rfl) | exact Or.inr (Or.inr rfl)) (by first | exact Or.inl rfl | exact Or.inr (Or.inl rfl) | exact Or.inr (Or.inr rfl)), FunD.bindsN F (fun _ _ _ _ _ _ us hl => match us, hl with | [_, _], _ => rfl), Mir.FunD.hasPar F⟩
theorem xv_TooLong (T : Tp K mg) : XV P w K mg base "TooLong" (defArgs s_TooLong___init__) ["self", "limit"] (spXI (He.ga K "TooLong") "limit") 1 := by
  obtain ⟨fd, F⟩ := T.d_TooLong___init__
  exact ⟨T.g_TooLong, T.xk_TooLong.oex, _, fd, T.xi_TooLong.ini, T.xi_TooLong.ty, fn_xinit F sc_TooLong___init__ T.xk_TooLong.oex T.xn_TooLong_limit rfl (by first | exact Or.inl rfl | exact Or.inr (Or.inl rfl) | exact Or.inr (Or.inr rfl)) (by first | exact Or.inl rfl | exact Or.inr (Or.inl rfl) | exact Or.inr (Or.inr rfl)), FunD.bindsN F (fun _ _ _ _ _ _ us hl => match us, hl with | [_, _], _ => rfl), Mir.FunD.hasPar F⟩
theorem xv_TooMany (T : Tp K mg) : XV P w K mg base "TooMany" (defArgs s_TooMany___init__) ["self", "limit"] (spXI (He.ga K "TooMany") "limit") 1 := by
  obtain ⟨fd, F⟩ := T.d_TooMany___init__
  exact ⟨T.g_TooMany, T.xk_TooMany.oex, _, fd, T.xi_TooMany.ini, T.xi_TooMany.ty, fn_xinit F sc_TooMany___init__ T.xk_TooMany.oex T.xn_TooMany_limit rfl (by first | exact Or.inl rfl | exact Or.inr (Or.inl rfl) | exact Or.inr (Or.inr rfl)) (by first | exact Or.inl rfl | exact Or.inr (Or.inl rfl) | exact Or.inr (Or.inr rfl)), FunD.bindsN F (fun _ _ _ _ _ _ us hl => match us, hl with | [_, _], _ => rfl), Mir.FunD.hasPar F⟩
theorem xv_UnknownName (T : Tp K mg) : XV P w K mg base "UnknownName" (defArgs s_UnknownName___init__) ["self", "given"] (spXI (He.ga K "UnknownName") "given") 1 := by
  obtain ⟨fd, F⟩ := T.d_UnknownName___init__
  exact ⟨T.g_UnknownName, T.xk_UnknownName.oex, _, fd, T.xi_UnknownName.ini, T.xi_UnknownName.ty, fn_xinit F sc_UnknownName___init__ T.xk_UnknownName.oex T.xn_UnknownName_given rfl (by first | exact Or.inl rfl | exact Or.inr (Or.inl rfl) | exact Or.inr (Or.inr rfl)) (by first | exact Or.inl rfl | exact Or.inr (Or.inl rfl) | exact Or.inr (Or.inr rfl)), FunD.bindsN F (fun _ _ _ _ _ _ us hl => match us, hl with | [_, _], _ => rfl), Mir.FunD.hasPar F⟩
theorem sc_Broken___init__ : FnScope ["self", "index", "shown"] ["self", "index", "shown"] (defScope s_Broken___init__) := ⟨rfl, rfl, rfl, by decide +kernel, rfl, by decide +kernel, by decide +kernel⟩
theorem xv_Broken (T : Tp K mg) : XV P w K mg base "Broken" (defArgs s_Broken___init__) ["self", "index", "shown"] (spXI2 (He.ga K "Broken") "index" "shown") 1 := by
  obtain ⟨fd, F⟩ := T.d_Broken___init__
  exact ⟨T.g_Broken, T.xk_Broken.oex, _, fd, T.xi_Broken.ini, T.xi_Broken.ty, fn_xinit2 F sc_Broken___init__ T.xk_Broken.oex T.xn_Broken_index T.xn_Broken_shown rfl (by first | exact Or.inl rfl | exact Or.inr (Or.inl rfl) | exact Or.inr (Or.inr rfl)) (by first | exact Or.inl rfl | exact Or.inr (Or.inl rfl) | exact Or.inr (Or.inr rfl)) (by first | exact Or.inl rfl | exact Or.inr (Or.inl rfl) | exact Or.inr (Or.inr rfl)), FunD.bindsN F (fun _ _ _ _ _ _ us hl => match us, hl with | [_, _, _], _ => rfl), Mir.FunD.hasPar F⟩
theorem sc__law_ladle : FnScope ["_law_urn", "_law_many", "_law_base", "_law_got"] ["_law_urn", "_law_many"] (defScope s__law_ladle) := ⟨rfl, rfl, rfl, by decide +kernel, rfl, by decide +kernel, by decide +kernel⟩
theorem g__law_ladle (T : Tp K mg) : GF P w K mg base "_law_ladle" (defArgs s__law_ladle) ["_law_urn", "_law_many"] 1 m__law_ladle := by
  obtain ⟨fd, F⟩ := T.d__law_ladle
  refine ⟨T.g__law_ladle, F.kp, fd, ?_, FunD.bindsN F (fun _ _ _ _ _ _ us hl => match us, hl with | [_, _], _ => rfl), Mir.FunD.hasPar F, Mir.FunD.at_ F⟩
  refine fn_ok (k := 0) F sc__law_ladle rfl fun cdv A outer s H E hr => ?_
  have nd := sc__law_ladle.nd
  have tk := takes_of (X := cxOf (L2.CX P w) P w K mg base ["_law_urn", "_law_many", "_law_base", "_law_got"] "_law_ladle" (defScope s__law_ladle) (He.ga K "_law_ladle") cdv A outer s H E) rfl rfl rfl rfl
  have po := passes_of (X := cxOf (L2.CX P w) P w K mg base ["_law_urn", "_law_many", "_law_base", "_law_got"] "_law_ladle" (defScope s__law_ladle) (He.ga K "_law_ladle") cdv A outer s H E) rfl
  exact (oss_cons (os_if (ot_gt (oe_it (oe_var 0) oe_int) oe_int) (oss_cons (os_asg (oe_divmod T.f_divmod (oe_it (oe_var 0) oe_int) (oe_var 1)) (og_tup rfl (ogs_cons (og_sub (oe_var 0) oe_int) (ogs_cons (og_name nd) ogs_nil)))) (oss_one (os_ret (oe_var 3)))) oss_nil) (oss_cons (os_asg (oe_add (oe_it (oe_var 0) oe_int) oe_int) (og_sub (oe_var 0) oe_int)) (oss_cons (os_set (i := 2) nd (oe_mod (oe_intC T.f_int (oe_add (oe_it (oe_var 0) oe_int) (oe_mul oe_int (oe_it (oe_var 0) oe_int)))) oe_int)) (oss_cons (os_asg (oe_mod (oe_intC T.f_int (oe_add (oe_add (oe_mul (oe_var 2) (oe_add (oe_mod (oe_intC T.f_int (oe_var 2)) oe_int) oe_int)) (oe_mul oe_int (oe_it (oe_var 0) oe_int))) oe_int)) oe_int) (og_sub (oe_var 0) oe_int)) (oss_one (os_ret (oe_mod (oe_fdiv (oe_intC T.f_int (oe_it (oe_var 0) oe_int)) oe_int) (oe_var 1))))))))
theorem sc__law_pick : FnScope ["_law_urn", "_law_menu"] ["_law_urn", "_law_menu"] (defScope s__law_pick) := ⟨rfl, rfl, rfl, by decide +kernel, rfl, by decide +kernel, by decide +kernel⟩
theorem g__law_pick (T : Tp K mg) : GF P w K mg base "_law_pick" (defArgs s__law_pick) ["_law_urn", "_law_menu"] 2 m__law_pick := by
  obtain ⟨fd, F⟩ := T.d__law_pick
  refine ⟨T.g__law_pick, F.kp, fd, ?_, FunD.bindsN F (fun _ _ _ _ _ _ us hl => match us, hl with | [_, _], _ => rfl), Mir.FunD.hasPar F, Mir.FunD.at_ F⟩
  refine fn_ok (k := 1) F sc__law_pick rfl fun cdv A outer s H E hr => ?_
  have nd := sc__law_pick.nd
  have tk := takes_of (X := cxOf (L2.CX P w) P w K mg base ["_law_urn", "_law_menu"] "_law_pick" (defScope s__law_pick) (He.ga K "_law_pick") cdv A outer s H E) rfl rfl rfl rfl
  have po := passes_of (X := cxOf (L2.CX P w) P w K mg base ["_law_urn", "_law_menu"] "_law_pick" (defScope s__law_pick) (He.ga K "_law_pick") cdv A outer s H E) rfl
  exact (oss_one (os_ret (oe_it (oe_var 1) (oe_fn (g__law_ladle T) hr (by decide) tk (oa_cons (oe_var 0) (oa_cons (oe_len T.f_len (oe_var 1)) oa_nil))))))
theorem sc__law_first : FnScope ["_law_odd", "_law_found", "_law_later"] ["_law_odd"] (defScope s__law_first) := ⟨rfl, rfl, rfl, by decide +kernel, rfl, by decide +kernel, by decide +kernel⟩
theorem g__law_first (T : Tp K mg) : GF P w K mg base "_law_first" (defArgs s__law_first) ["_law_odd"] 3 m__law_first := by
  obtain ⟨fd, F⟩ := T.d__law_first
  refine ⟨T.g__law_first, F.kp, fd, ?_, FunD.bindsN F (fun _ _ _ _ _ _ us hl => match us, hl with | [_], _ => rfl), Mir.FunD.hasPar F, Mir.FunD.at_ F⟩
  refine fn_ok (k := 2) F sc__law_first rfl fun cdv A outer s H E hr => ?_
  have nd := sc__law_first.nd
  have tk := takes_of (X := cxOf (L2.CX P w) P w K mg base ["_law_odd", "_law_found", "_law_later"] "_law_first" (defScope s__law_first) (He.ga K "_law_first") cdv A outer s H E) rfl rfl rfl rfl
  have po := passes_of (X := cxOf (L2.CX P w) P w K mg base ["_law_odd", "_law_found", "_law_later"] "_law_first" (defScope s__law_first) (He.ga K "_law_first") cdv A outer s H E) rfl
  exact (oss_cons (os_set (i := 1) nd (oe_lst (oa_cons (oe_err1 (xv_InvalidText T) hr (by decide) tk (oa_cons (oe_var 0) oa_nil)) (oa_cons (oe_err1 (xv_InvalidKind T) hr (by decide) tk (oa_cons (oe_var 0) oa_nil)) (oa_cons (oe_err1 (xv_InvalidSet T) hr (by decide) tk (oa_cons (oe_var 0) oa_nil)) (oa_cons (oe_err1 (xv_InvalidWord T) hr (by decide) tk (oa_cons (oe_var 0) oa_nil)) (oa_cons (oe_err1 (xv_InvalidLetter T) hr (by decide) tk (oa_cons (oe_var 0) oa_nil)) oa_nil))))))) (oss_cons (os_set (i := 1) nd (oe_add (oe_var 1) (oe_lst (oa_cons (oe_err1 (xv_InvalidNumber T) hr (by decide) tk (oa_cons (oe_var 0) oa_nil)) (oa_cons (oe_err1 (xv_InvalidName T) hr (by decide) tk (oa_cons (oe_var 0) oa_nil)) (oa_cons (oe_err1 (xv_InvalidIndex T) hr (by decide) tk (oa_cons (oe_var 0) oa_nil)) (oa_cons (oe_err1 (xv_InvalidPromise T) hr (by decide) tk (oa_cons (oe_var 0) oa_nil)) oa_nil))))))) (oss_cons (os_set (i := 1) nd (oe_add (oe_var 1) (oe_lst (oa_cons (oe_err1 (xv_InvalidCommand T) hr (by decide) tk (oa_cons (oe_var 0) oa_nil)) (oa_cons (oe_err1 (xv_NotATerm T) hr (by decide) tk (oa_cons (oe_var 0) oa_nil)) (oa_cons (oe_err1 (xv_NotASpace T) hr (by decide) tk (oa_cons (oe_var 0) oa_nil)) oa_nil)))))) (oss_cons (os_set (i := 2) nd (oe_lst (oa_cons (oe_err1K (ks := ["given"]) (xv_InvalidText T) hr (by decide) tk (ok_cons (oe_var 0) ok_nil) (fun _ _ _ _ _ _ _ _ _ _ us ws hu hw => match us, ws, hu, hw with | [_], [_], _, _ => rfl) rfl) (oa_cons (oe_err1K (ks := ["given"]) (xv_InvalidKind T) hr (by decide) tk (ok_cons (oe_var 0) ok_nil) (fun _ _ _ _ _ _ _ _ _ _ us ws hu hw => match us, ws, hu, hw with | [_], [_], _, _ => rfl) rfl) (oa_cons (oe_err1K (ks := ["given"]) (xv_InvalidSet T) hr (by decide) tk (ok_cons (oe_var 0) ok_nil) (fun _ _ _ _ _ _ _ _ _ _ us ws hu hw => match us, ws, hu, hw with | [_], [_], _, _ => rfl) rfl) (oa_cons (oe_err1K (ks := ["given"]) (xv_InvalidWord T) hr (by decide) tk (ok_cons (oe_var 0) ok_nil) (fun _ _ _ _ _ _ _ _ _ _ us ws hu hw => match us, ws, hu, hw with | [_], [_], _, _ => rfl) rfl) oa_nil)))))) (oss_cons (os_set (i := 2) nd (oe_add (oe_var 2) (oe_lst (oa_cons (oe_err1K (ks := ["given"]) (xv_InvalidLetter T) hr (by decide) tk (ok_cons (oe_var 0) ok_nil) (fun _ _ _ _ _ _ _ _ _ _ us ws hu hw => match us, ws, hu, hw with | [_], [_], _, _ => rfl) rfl) (oa_cons (oe_err1K (ks := ["given"]) (xv_InvalidNumber T) hr (by decide) tk (ok_cons (oe_var 0) ok_nil) (fun _ _ _ _ _ _ _ _ _ _ us ws hu hw => match us, ws, hu, hw with | [_], [_], _, _ => rfl) rfl) (oa_cons (oe_err1K (ks := ["given"]) (xv_InvalidName T) hr (by decide) tk (ok_cons (oe_var 0) ok_nil) (fun _ _ _ _ _ _ _ _ _ _ us ws hu hw => match us, ws, hu, hw with | [_], [_], _, _ => rfl) rfl) oa_nil)))))) (oss_cons (os_set (i := 2) nd (oe_add (oe_var 2) (oe_lst (oa_cons (oe_err1K (ks := ["given"]) (xv_InvalidIndex T) hr (by decide) tk (ok_cons (oe_var 0) ok_nil) (fun _ _ _ _ _ _ _ _ _ _ us ws hu hw => match us, ws, hu, hw with | [_], [_], _, _ => rfl) rfl) (oa_cons (oe_err1K (ks := ["given"]) (xv_InvalidPromise T) hr (by decide) tk (ok_cons (oe_var 0) ok_nil) (fun _ _ _ _ _ _ _ _ _ _ us ws hu hw => match us, ws, hu, hw with | [_], [_], _, _ => rfl) rfl) (oa_cons (oe_err1K (ks := ["given"]) (xv_InvalidCommand T) hr (by decide) tk (ok_cons (oe_var 0) ok_nil) (fun _ _ _ _ _ _ _ _ _ _ us ws hu hw => match us, ws, hu, hw with | [_], [_], _, _ => rfl) rfl) oa_nil)))))) (oss_one (os_ret (oe_tup (oa_cons (oe_var 1) (oa_cons (oe_add (oe_var 2) (oe_lst (oa_cons (oe_err1K (ks := ["given"]) (xv_NotATerm T) hr (by decide) tk (ok_cons (oe_var 0) ok_nil) (fun _ _ _ _ _ _ _ _ _ _ us ws hu hw => match us, ws, hu, hw with | [_], [_], _, _ => rfl) rfl) (oa_cons (oe_err1K (ks := ["given"]) (xv_NotASpace T) hr (by decide) tk (ok_cons (oe_var 0) ok_nil) (fun _ _ _ _ _ _ _ _ _ _ us ws hu hw => match us, ws, hu, hw with | [_], [_], _, _ => rfl) rfl) oa_nil)))) oa_nil)))))))))))
theorem sc__law_flags : FnScope ["_law_e", "_law_found"] ["_law_e"] (defScope s__law_flags) := ⟨rfl, rfl, rfl, by decide +kernel, rfl, by decide +kernel, by decide +kernel⟩
theorem g__law_flags (T : Tp K mg) : GF P w K mg base "_law_flags" (defArgs s__law_flags) ["_law_e"] 1 m__law_flags := by
  obtain ⟨fd, F⟩ := T.d__law_flags
  refine ⟨T.g__law_flags, F.kp, fd, ?_, FunD.bindsN F (fun _ _ _ _ _ _ us hl => match us, hl with | [_], _ => rfl), Mir.FunD.hasPar F, Mir.FunD.at_ F⟩
  refine fn_ok (k := 0) F sc__law_flags rfl fun cdv A outer s H E hr => ?_
  have nd := sc__law_flags.nd
  have tk := takes_of (X := cxOf (L2.CX P w) P w K mg base ["_law_e", "_law_found"] "_law_flags" (defScope s__law_flags) (He.ga K "_law_flags") cdv A outer s H E) rfl rfl rfl rfl
  have po := passes_of (X := cxOf (L2.CX P w) P w K mg base ["_law_e", "_law_found"] "_law_flags" (defScope s__law_flags) (He.ga K "_law_flags") cdv A outer s H E) rfl
  exact (oss_cons (os_set (i := 1) nd (oe_lst (oa_cons (oe_isE T.el T.ko T.kb T.f_isinstance (oe_var 0) (oe_gC T.g_InvalidText)) (oa_cons (oe_isE T.el T.ko T.kb T.f_isinstance (oe_var 0) (oe_gC T.g_InvalidKind)) (oa_cons (oe_isE T.el T.ko T.kb T.f_isinstance (oe_var 0) (oe_gC T.g_InvalidSet)) oa_nil))))) (oss_cons (os_set (i := 1) nd (oe_add (oe_var 1) (oe_lst (oa_cons (oe_isE T.el T.ko T.kb T.f_isinstance (oe_var 0) (oe_gC T.g_InvalidWord)) (oa_cons (oe_isE T.el T.ko T.kb T.f_isinstance (oe_var 0) (oe_gC T.g_InvalidLetter)) (oa_cons (oe_isE T.el T.ko T.kb T.f_isinstance (oe_var 0) (oe_gC T.g_InvalidNumber)) oa_nil)))))) (oss_cons (os_set (i := 1) nd (oe_add (oe_var 1) (oe_lst (oa_cons (oe_isE T.el T.ko T.kb T.f_isinstance (oe_var 0) (oe_gC T.g_InvalidName)) (oa_cons (oe_isE T.el T.ko T.kb T.f_isinstance (oe_var 0) (oe_gC T.g_InvalidIndex)) (oa_cons (oe_isE T.el T.ko T.kb T.f_isinstance (oe_var 0) (oe_gC T.g_InvalidPromise)) oa_nil)))))) (oss_cons (os_set (i := 1) nd (oe_add (oe_var 1) (oe_lst (oa_cons (oe_isE T.el T.ko T.kb T.f_isinstance (oe_var 0) (oe_gC T.g_InvalidCommand)) (oa_cons (oe_isE T.el T.ko T.kb T.f_isinstance (oe_var 0) (oe_gC T.g_NotATerm)) (oa_cons (oe_isE T.el T.ko T.kb T.f_isinstance (oe_var 0) (oe_gC T.g_NotASpace)) oa_nil)))))) (oss_cons (os_set (i := 1) nd (oe_add (oe_var 1) (oe_lst (oa_cons (oe_isE T.el T.ko T.kb T.f_isinstance (oe_var 0) (oe_gC T.g_InvalidPremises)) (oa_cons (oe_isE T.el T.ko T.kb T.f_isinstance (oe_var 0) (oe_gC T.g_InvalidSets)) (oa_cons (oe_isE T.el T.ko T.kb T.f_isinstance (oe_var 0) (oe_gC T.g_UnknownName)) oa_nil)))))) (oss_cons (os_set (i := 1) nd (oe_add (oe_var 1) (oe_lst (oa_cons (oe_isE T.el T.ko T.kb T.f_isinstance (oe_var 0) (oe_gC T.g_Taken)) (oa_cons (oe_isE T.el T.ko T.kb T.f_isinstance (oe_var 0) (oe_gC T.g_InUse)) (oa_cons (oe_isE T.el T.ko T.kb T.f_isinstance (oe_var 0) (oe_gC T.g_TooMany)) (oa_cons (oe_isE T.el T.ko T.kb T.f_isinstance (oe_var 0) (oe_gC T.g_TooLong)) oa_nil))))))) (oss_one (os_ret (oe_add (oe_var 1) (oe_lst (oa_cons (oe_isE T.el T.ko T.kb T.f_isinstance (oe_var 0) (oe_gC T.g_Alone)) (oa_cons (oe_isE T.el T.ko T.kb T.f_isinstance (oe_var 0) (oe_gC T.g_NothingToUndo)) (oa_cons (oe_isE T.el T.ko T.kb T.f_isinstance (oe_var 0) (oe_gC T.g_Broken)) oa_nil)))))))))))))
theorem sc__law_bases : FnScope ["_law_e", "_law_found"] ["_law_e"] (defScope s__law_bases) := ⟨rfl, rfl, rfl, by decide +kernel, rfl, by decide +kernel, by decide +kernel⟩
theorem g__law_bases (T : Tp K mg) : GF P w K mg base "_law_bases" (defArgs s__law_bases) ["_law_e"] 1 m__law_bases := by
  obtain ⟨fd, F⟩ := T.d__law_bases
  refine ⟨T.g__law_bases, F.kp, fd, ?_, FunD.bindsN F (fun _ _ _ _ _ _ us hl => match us, hl with | [_], _ => rfl), Mir.FunD.hasPar F, Mir.FunD.at_ F⟩
  refine fn_ok (k := 0) F sc__law_bases rfl fun cdv A outer s H E hr => ?_
  have nd := sc__law_bases.nd
  have tk := takes_of (X := cxOf (L2.CX P w) P w K mg base ["_law_e", "_law_found"] "_law_bases" (defScope s__law_bases) (He.ga K "_law_bases") cdv A outer s H E) rfl rfl rfl rfl
  have po := passes_of (X := cxOf (L2.CX P w) P w K mg base ["_law_e", "_law_found"] "_law_bases" (defScope s__law_bases) (He.ga K "_law_bases") cdv A outer s H E) rfl
  exact (oss_cons (os_set (i := 1) nd (oe_lst (oa_cons (oe_isE T.el T.ko T.kb T.f_isinstance (oe_var 0) (oe_gC T.g_WrongValue)) (oa_cons (oe_isE T.el T.ko T.kb T.f_isinstance (oe_var 0) (oe_gC T.g_WrongName)) (oa_cons (oe_isE T.el T.ko T.kb T.f_isinstance (oe_var 0) (oe_gC T.g_NoAnswer)) oa_nil))))) (oss_one (os_ret (oe_add (oe_var 1) (oe_lst (oa_cons (oe_isE T.el T.ko T.kb T.f_isinstance (oe_var 0) (oe_bT T.f_ValueError)) (oa_cons (oe_isE T.el T.ko T.kb T.f_isinstance (oe_var 0) (oe_bT T.f_LookupError)) (oa_cons (oe_isE T.el T.ko T.kb T.f_isinstance (oe_var 0) (oe_bT T.f_ArithmeticError)) oa_nil))))))))
theorem sc__law_base_right : FnScope ["_law_group", "_law_at", "_law_first_here", "_law_k", "_law_e", "_law_flags_here", "_law_number"] ["_law_group", "_law_at", "_law_first_here"] (defScope s__law_base_right) := ⟨rfl, rfl, rfl, by decide +kernel, rfl, by decide +kernel, by decide +kernel⟩
theorem g__law_base_right (T : Tp K mg) : GF P w K mg base "_law_base_right" (defArgs s__law_base_right) ["_law_group", "_law_at", "_law_first_here"] 2 m__law_base_right := by
  obtain ⟨fd, F⟩ := T.d__law_base_right
  refine ⟨T.g__law_base_right, F.kp, fd, ?_, FunD.bindsN F (fun _ _ _ _ _ _ us hl => match us, hl with | [_, _, _], _ => rfl), Mir.FunD.hasPar F, Mir.FunD.at_ F⟩
  refine fn_ok (k := 1) F sc__law_base_right rfl fun cdv A outer s H E hr => ?_
  have nd := sc__law_base_right.nd
  have tk := takes_of (X := cxOf (L2.CX P w) P w K mg base ["_law_group", "_law_at", "_law_first_here", "_law_k", "_law_e", "_law_flags_here", "_law_number"] "_law_base_right" (defScope s__law_base_right) (He.ga K "_law_base_right") cdv A outer s H E) rfl rfl rfl rfl
  have po := passes_of (X := cxOf (L2.CX P w) P w K mg base ["_law_group", "_law_at", "_law_first_here", "_law_k", "_law_e", "_law_flags_here", "_law_number"] "_law_base_right" (defScope s__law_base_right) (He.ga K "_law_base_right") cdv A outer s H E) rfl
  exact (oss_cons (os_for po rfl (oi_enum T.f_enumerate (oe_var 0)) (og_tup rfl (ogs_cons (og_name nd) (ogs_cons (og_name nd) ogs_nil))) (oss_cons (os_set (i := 5) nd (oe_fn (g__law_flags T) hr (by decide) tk (oa_cons (oe_var 4) oa_nil))) (oss_cons (os_if (ot_w (ow_or (ot_ne hr.r (oe_countB (oe_var 5) oe_bl) oe_int) (ow_or1 (ot_ne hr.r (oe_indexD hr.r (oe_var 5) oe_bl) (oe_add (oe_var 2) (oe_var 3)))))) (oss_one (os_ret oe_bl)) oss_nil) (oss_one (os_if (ot_ne hr.r (oe_fn (g__law_bases T) hr (by decide) tk (oa_cons (oe_var 4) oa_nil)) (oe_lc rfl nd (oi_range1 T.f_range oe_int) (own := [("_law_number", 6)]) (blkOk_by rfl) (by decide) (fun _ _ _ _ _ => (og_name nd)) (fun _ _ _ _ _ => ots_nil) (fun _ _ _ _ _ => (oe_eq hr.r (oe_mod (oe_var 6) oe_int) (oe_var 1))))) (oss_one (os_ret oe_bl)) oss_nil))))) (oss_one (os_ret oe_bl)))
theorem sc__law_right : FnScope ["_law_urn", "_law_odd", "_law_mate", "_law_spots", "_law_names_here", "_law_ends", "_law_k", "_law_plain", "_law_told", "_law_found", "_law_later", "_law_kept", "_law_e", "_law_number"] ["_law_urn"] (defScope s__law_right) := ⟨rfl, rfl, rfl, by decide +kernel, rfl, by decide +kernel, by decide +kernel⟩
theorem g__law_right (T : Tp K mg) : GF P w K mg base "_law_right" (defArgs s__law_right) ["_law_urn"] 4 m__law_right := by
  obtain ⟨fd, F⟩ := T.d__law_right
  refine ⟨T.g__law_right, F.kp, fd, ?_, FunD.bindsN F (fun _ _ _ _ _ _ us hl => match us, hl with | [_], _ => rfl), Mir.FunD.hasPar F, Mir.FunD.at_ F⟩
  refine fn_ok (k := 3) F sc__law_right rfl fun cdv A outer s H E hr => ?_
  have nd := sc__law_right.nd
  have tk := takes_of (X := cxOf (L2.CX P w) P w K mg base ["_law_urn", "_law_odd", "_law_mate", "_law_spots", "_law_names_here", "_law_ends", "_law_k", "_law_plain", "_law_told", "_law_found", "_law_later", "_law_kept", "_law_e", "_law_number"] "_law_right" (defScope s__law_right) (He.ga K "_law_right") cdv A outer s H E) rfl rfl rfl rfl
  have po := passes_of (X := cxOf (L2.CX P w) P w K mg base ["_law_urn", "_law_odd", "_law_mate", "_law_spots", "_law_names_here", "_law_ends", "_law_k", "_law_plain", "_law_told", "_law_found", "_law_later", "_law_kept", "_law_e", "_law_number"] "_law_right" (defScope s__law_right) (He.ga K "_law_right") cdv A outer s H E) rfl
  exact (oss_cons (os_set (i := 1) nd (oe_fn (g__law_pick T) hr (by decide) tk (oa_cons (oe_var 0) (oa_cons (oe_lst (oa_cons oe_non (oa_cons oe_int (oa_cons oe_bl (oa_cons oe_str (oa_cons (oe_tup (oa_cons oe_int (oa_cons oe_str oa_nil))) (oa_cons (oe_lst (oa_cons oe_int oa_nil)) (oa_cons oe_dct0 (oa_cons (oe_pow oe_int oe_int) (oa_cons (oe_tup oa_nil) (oa_cons (oe_neg oe_int) oa_nil))))))))))) oa_nil)))) (oss_cons (os_set (i := 2) nd (oe_fn (g__law_pick T) hr (by decide) tk (oa_cons (oe_var 0) (oa_cons (oe_lst (oa_cons oe_non (oa_cons oe_int (oa_cons oe_str (oa_cons (oe_tup (oa_cons (oe_tup oa_nil) oa_nil)) (oa_cons oe_bl oa_nil)))))) oa_nil)))) (oss_cons (os_asg (oe_fn (g__law_first T) hr (by decide) tk (oa_cons (oe_var 1) oa_nil)) (og_tup rfl (ogs_cons (og_name nd) (ogs_cons (og_name nd) ogs_nil)))) (oss_cons (os_if (ot_ne hr.r (oe_reprQ hr (by decide) T.f_repr (oe_lc rfl nd (oi_of (oe_add (oe_var 9) (oe_var 10))) (own := [("_law_e", 12)]) (blkOk_by rfl) (by decide) (fun _ _ _ _ _ => (og_name nd)) (fun _ _ _ _ _ => ots_nil) (fun _ _ _ _ _ => (oe_erf T.ef_given (oe_var 12))))) (oe_reprQ hr (by decide) T.f_repr (oe_mul (oe_lst (oa_cons (oe_var 1) oa_nil)) oe_int))) (oss_one (os_ret oe_bl)) oss_nil) (oss_cons (os_set (i := 3) nd (oe_lst (oa_cons (oe_lst (oa_cons (oe_err1 (xv_InvalidPremises T) hr (by decide) tk (oa_cons (oe_var 1) oa_nil)) (oa_cons (oe_err1 (xv_InvalidSets T) hr (by decide) tk (oa_cons (oe_var 1) oa_nil)) oa_nil))) (oa_cons (oe_lst (oa_cons (oe_err1K (ks := ["index"]) (xv_InvalidPremises T) hr (by decide) tk (ok_cons (oe_var 1) ok_nil) (fun _ _ _ _ _ _ _ _ _ _ us ws hu hw => match us, ws, hu, hw with | [_], [_], _, _ => rfl) rfl) (oa_cons (oe_err1K (ks := ["index"]) (xv_InvalidSets T) hr (by decide) tk (ok_cons (oe_var 1) ok_nil) (fun _ _ _ _ _ _ _ _ _ _ us ws hu hw => match us, ws, hu, hw with | [_], [_], _, _ => rfl) rfl) oa_nil))) oa_nil)))) (oss_cons (os_set (i := 4) nd (oe_lstC (oa_cons (oe_lst (oa_cons (oe_err1 (xv_UnknownName T) hr (by decide) tk (oa_cons (oe_var 1) oa_nil)) (oa_cons (oe_err1 (xv_Taken T) hr (by decide) tk (oa_cons (oe_var 1) oa_nil)) (oa_cons (oe_err1 (xv_InUse T) hr (by decide) tk (oa_cons (oe_var 1) oa_nil)) oa_nil)))) oa_nil))) (oss_cons (os_expr (oe_append (oe_var 4) (oe_lst (oa_cons (oe_err1K (ks := ["given"]) (xv_UnknownName T) hr (by decide) tk (ok_cons (oe_var 1) ok_nil) (fun _ _ _ _ _ _ _ _ _ _ us ws hu hw => match us, ws, hu, hw with | [_], [_], _, _ => rfl) rfl) (oa_cons (oe_err1K (ks := ["given"]) (xv_Taken T) hr (by decide) tk (ok_cons (oe_var 1) ok_nil) (fun _ _ _ _ _ _ _ _ _ _ us ws hu hw => match us, ws, hu, hw with | [_], [_], _, _ => rfl) rfl) (oa_cons (oe_err1K (ks := ["index"]) (xv_InUse T) hr (by decide) tk (ok_cons (oe_var 1) ok_nil) (fun _ _ _ _ _ _ _ _ _ _ us ws hu hw => match us, ws, hu, hw with | [_], [_], _, _ => rfl) rfl) oa_nil)))))) (oss_cons (os_set (i := 5) nd (oe_lstC (oa_cons (oe_lst (oa_cons (oe_err1 (xv_TooMany T) hr (by decide) tk (oa_cons (oe_var 1) oa_nil)) (oa_cons (oe_err1 (xv_TooLong T) hr (by decide) tk (oa_cons (oe_var 1) oa_nil)) (oa_cons (oe_err0 T.x0_Alone T.g_Alone) (oa_cons (oe_err0 T.x0_NothingToUndo T.g_NothingToUndo) (oa_cons (oe_err2 (xv_Broken T) hr (by decide) tk (oa_cons (oe_var 1) (oa_cons (oe_var 2) oa_nil))) oa_nil)))))) oa_nil))) (oss_cons (os_expr (oe_append (oe_var 5) (oe_lst (oa_cons (oe_err1K (ks := ["limit"]) (xv_TooMany T) hr (by decide) tk (ok_cons (oe_var 1) ok_nil) (fun _ _ _ _ _ _ _ _ _ _ us ws hu hw => match us, ws, hu, hw with | [_], [_], _, _ => rfl) rfl) (oa_cons (oe_err1K (ks := ["limit"]) (xv_TooLong T) hr (by decide) tk (ok_cons (oe_var 1) ok_nil) (fun _ _ _ _ _ _ _ _ _ _ us ws hu hw => match us, ws, hu, hw with | [_], [_], _, _ => rfl) rfl) (oa_cons (oe_err0 T.x0_Alone T.g_Alone) (oa_cons (oe_err0 T.x0_NothingToUndo T.g_NothingToUndo) (oa_cons (oe_err2K (ks := ["shown", "index"]) (xv_Broken T) hr (by decide) tk (ok_cons (oe_var 2) (ok_cons (oe_var 1) ok_nil)) (fun _ _ _ _ _ _ _ _ _ _ us ws hu hw => match us, ws, hu, hw with | [_], [_, _], _, _ => rfl) rfl) oa_nil)))))))) (oss_cons (os_for po rfl (oi_range1 T.f_range oe_int) (og_name nd) (oss_cons (os_set (i := 11) nd (oe_add (oe_lc rfl nd (oi_of (oe_it (oe_var 3) (oe_var 6))) (own := [("_law_e", 12)]) (blkOk_by rfl) (by decide) (fun _ _ _ _ _ => (og_name nd)) (fun _ _ _ _ _ => ots_nil) (fun _ _ _ _ _ => (oe_erf T.ef_index (oe_var 12)))) (oe_lst (oa_cons (oe_erf T.ef_given (oe_it (oe_it (oe_var 4) (oe_var 6)) oe_int)) (oa_cons (oe_erf T.ef_given (oe_it (oe_it (oe_var 4) (oe_var 6)) oe_int)) (oa_cons (oe_erf T.ef_index (oe_it (oe_it (oe_var 4) (oe_var 6)) oe_int)) oa_nil)))))) (oss_cons (os_set (i := 11) nd (oe_add (oe_var 11) (oe_lst (oa_cons (oe_erf T.ef_limit (oe_it (oe_it (oe_var 5) (oe_var 6)) oe_int)) (oa_cons (oe_erf T.ef_limit (oe_it (oe_it (oe_var 5) (oe_var 6)) oe_int)) (oa_cons (oe_erf T.ef_index (oe_it (oe_it (oe_var 5) (oe_var 6)) oe_int)) (oa_cons (oe_erf T.ef_shown (oe_it (oe_it (oe_var 5) (oe_var 6)) oe_int)) oa_nil))))))) (oss_cons (os_if (ot_ne hr.r (oe_reprQ hr (by decide) T.f_repr (oe_var 11)) (oe_reprQ hr (by decide) T.f_repr (oe_add (oe_mul (oe_lst (oa_cons (oe_var 1) oa_nil)) oe_int) (oe_lst (oa_cons (oe_var 2) oa_nil))))) (oss_one (os_ret oe_bl)) oss_nil) (oss_cons (os_if (ot_w (ow_or (ot_not (ot_val (oe_fn (g__law_base_right T) hr (by decide) tk (oa_cons (oe_add (oe_it (oe_tup (oa_cons (oe_var 9) (oa_cons (oe_var 10) oa_nil))) (oe_var 6)) (oe_it (oe_var 3) (oe_var 6))) (oa_cons oe_int (oa_cons oe_int oa_nil)))))) (ow_or1 (ot_not (ot_val (oe_fn (g__law_base_right T) hr (by decide) tk (oa_cons (oe_it (oe_var 4) (oe_var 6)) (oa_cons oe_int (oa_cons oe_int oa_nil))))))))) (oss_one (os_ret oe_bl)) oss_nil) (oss_one (os_if (ot_not (ot_val (oe_fn (g__law_base_right T) hr (by decide) tk (oa_cons (oe_it (oe_var 5) (oe_var 6)) (oa_cons oe_int (oa_cons oe_int oa_nil)))))) (oss_one (os_ret oe_bl)) oss_nil))))))) (oss_cons (os_setLc (i := 7) rfl nd (oi_of (oe_lst (oa_cons (oe_err0 T.x0_WrongValue T.g_WrongValue) (oa_cons (oe_err0 T.x0_WrongName T.g_WrongName) (oa_cons (oe_err0 T.x0_NoAnswer T.g_NoAnswer) oa_nil))))) (own := [("_law_e", 12)]) (blkOk_by rfl) (by decide) (fun _ _ _ _ _ => (og_name nd)) (fun _ _ _ _ _ => ots_nil) (fun _ _ _ _ _ => (oe_fn (g__law_bases T) hr (by decide) Mir.takes0 (oa_cons (oe_var 12) oa_nil)))) (oss_cons (os_if (ot_ne hr.r (oe_var 7) (oe_lc rfl nd (oi_range1 T.f_range oe_int) (own := [("_law_k", 6)]) (blkOk_by rfl) (by decide) (fun _ _ _ _ _ => (og_name nd)) (fun _ _ _ _ _ => ots_nil) (fun _ _ _ _ _ => (oe_lc rfl nd (oi_range1 T.f_range oe_int) (own := [("_law_number", 13)]) (blkOk_by rfl) (by decide) (fun _ _ _ _ _ => (og_name nd)) (fun _ _ _ _ _ => ots_nil) (fun _ _ _ _ _ => (oe_eq hr.r (oe_mod (oe_var 13) oe_int) (oe_var 6))))))) (oss_one (os_ret oe_bl)) oss_nil) (oss_cons (os_set (i := 8) nd (oe_lst (oa_cons (oe_gV T.v_MOST_POINTS) (oa_cons (oe_gV T.v_MOST_SIGNS) (oa_cons (oe_gV T.v_MOST_WEIGHT) (oa_cons (oe_gV T.v_MOST_WORD) (oa_cons (oe_gV T.v_MOST_PREMISES) (oa_cons (oe_gV T.v_MOST_LISTED) (oa_cons (oe_gV T.v_MOST_TRIED) oa_nil))))))))) (oss_one (os_ret (oe_eq hr.r (oe_reprQ hr (by decide) T.f_repr (oe_var 8)) (oe_reprQ hr (by decide) T.f_repr (oe_lst (oa_cons oe_int (oa_cons oe_int (oa_cons oe_int (oa_cons oe_int (oa_cons oe_int (oa_cons oe_int (oa_cons oe_int oa_nil)))))))))))))))))))))))))
theorem sc__law_urn_of : FnScope ["_law_script", "_law_turn", "_law_cell", "_law_mixed", "_law_at", "_law_each"] ["_law_script", "_law_turn"] (defScope s__law_urn_of) := ⟨rfl, rfl, rfl, by decide +kernel, rfl, by decide +kernel, by decide +kernel⟩
theorem g__law_urn_of (T : Tp K mg) : GF P w K mg base "_law_urn_of" (defArgs s__law_urn_of) ["_law_script", "_law_turn"] 1 m__law_urn_of := by
  obtain ⟨fd, F⟩ := T.d__law_urn_of
  refine ⟨T.g__law_urn_of, F.kp, fd, ?_, FunD.bindsN F (fun _ _ _ _ _ _ us hl => match us, hl with | [_, _], _ => rfl), Mir.FunD.hasPar F, Mir.FunD.at_ F⟩
  refine fn_okK (k := 0) F sc__law_urn_of rfl fun cdv A outer s H E hr => ?_
  have nd := sc__law_urn_of.nd
  have tk := takes_of (X := cxOf (L2.CX P w) P w K mg base ["_law_script", "_law_turn", "_law_cell", "_law_mixed", "_law_at", "_law_each"] "_law_urn_of" (defScope s__law_urn_of) (He.ga K "_law_urn_of") cdv A outer s H E) rfl rfl rfl rfl
  have po := passes_of (X := cxOf (L2.CX P w) P w K mg base ["_law_script", "_law_turn", "_law_cell", "_law_mixed", "_law_at", "_law_each"] "_law_urn_of" (defScope s__law_urn_of) (He.ga K "_law_urn_of") cdv A outer s H E) rfl
  exact (oss_cons (os_par (i := 2) (j := 3) rfl nd (oa_cons (oe_if (ot_lt (oe_var 1) (oe_len T.f_len (oe_var 0))) (oe_it (oe_var 0) (oe_var 1)) oe_int) (oa_cons (oe_add oe_int (oe_mul oe_int (oe_var 1))) oa_nil))) (oss_cons (os_for po rfl (oi_enum T.f_enumerate (oe_slice (oe_var 0) oo_none (oo_some oe_int))) (og_tup rfl (ogs_cons (og_name nd) (ogs_cons (og_name nd) ogs_nil))) (oss_one (os_set (i := 3) nd (oe_mod (oe_intC T.f_int (oe_add (oe_mul (oe_var 3) (oe_add oe_int (oe_mul oe_int (oe_var 4)))) (oe_mul oe_int (oe_var 5)))) oe_int)))) (oss_one (os_ret (oe_lstC (oa_cons (oe_if (ot_w (ow_or (ot_lt (oe_var 2) oe_int) (ow_or1 (ot_ge (oe_var 2) (oe_pow oe_int oe_int))))) (oe_abs T.f_abs (oe_var 2)) oe_int) (oa_cons (oe_mod (oe_intC T.f_int (oe_add (oe_var 3) (oe_mul oe_int (oe_var 2)))) oe_int) (oa_cons oe_int oa_nil))))))))
theorem sc_law : FnScope ["_law_script", "_law_turn"] ["_law_script"] (defScope s_law) := ⟨rfl, rfl, rfl, by decide +kernel, rfl, by decide +kernel, by decide +kernel⟩
theorem g_law (T : Tp K mg) : GF P w K mg base "law" (defArgs s_law) ["_law_script"] 5 m_law := by
  obtain ⟨fd, F⟩ := T.d_law
  refine ⟨T.g_law, F.kp, fd, ?_, FunD.bindsN F (fun _ _ _ _ _ _ us hl => match us, hl with | [_], _ => rfl), Mir.FunD.hasPar F, Mir.FunD.at_ F⟩
  refine fn_ok (k := 4) F sc_law rfl fun cdv A outer s H E hr => ?_
  have nd := sc_law.nd
  have tk := takes_of (X := cxOf (L2.CX P w) P w K mg base ["_law_script", "_law_turn"] "law" (defScope s_law) (He.ga K "law") cdv A outer s H E) rfl rfl rfl rfl
  have po := passes_of (X := cxOf (L2.CX P w) P w K mg base ["_law_script", "_law_turn"] "law" (defScope s_law) (He.ga K "law") cdv A outer s H E) rfl
  exact (oss_one (os_ret (oe_all rfl T.f_all (oe_lc rfl nd (oi_range1 T.f_range (oe_max2 rfl T.f_max oe_int (oe_min2 rfl T.f_min (oe_len T.f_len (oe_var 0)) oe_int))) (own := [("_law_turn", 1)]) (blkOk_by rfl) (by decide) (fun _ _ _ _ _ => (og_name nd)) (fun _ _ _ _ _ => ots_nil) (fun _ _ _ _ _ => (oe_cut (oe_fn (g__law_right T) hr (by decide) Mir.takes0 (oa_cons (oe_fn (g__law_urn_of T) hr (by decide) Mir.takes0 (oa_cons (oe_var 0) (oa_cons (oe_var 1) oa_nil))) oa_nil))))))))
end
theorem tp_of {K : PySem.W.Frag} {h : Heap} {mg : Str → Option Value} (X : K.In h) (G : h.Ns mainGlobals mg) (c : SaysM ck fns K) : Tp K mg := by
  have h0 := c.chk
  obtain ⟨a0, h1⟩ := He.ba h0
  obtain ⟨a1, h2⟩ := He.ba h1
  obtain ⟨a2, h3⟩ := He.ba h2
  obtain ⟨a3, h4⟩ := He.ba h3
  obtain ⟨a4, h5⟩ := He.ba h4
  obtain ⟨a5, h6⟩ := He.ba h5
  obtain ⟨a6, h7⟩ := He.ba h6
  obtain ⟨a7, h8⟩ := He.ba h7
  obtain ⟨a8, h9⟩ := He.ba h8
  obtain ⟨a9, h10⟩ := He.ba h9
  obtain ⟨a10, h11⟩ := He.ba h10
  obtain ⟨a11, h12⟩ := He.ba h11
  obtain ⟨a12, h13⟩ := He.ba h12
  obtain ⟨a13, h14⟩ := He.ba h13
  obtain ⟨a14, h15⟩ := He.ba h14
  obtain ⟨a15, h16⟩ := He.ba h15
  obtain ⟨a16, h17⟩ := He.ba h16
  obtain ⟨a17, h18⟩ := He.ba h17
  obtain ⟨a18, h19⟩ := He.ba h18
  obtain ⟨a19, h20⟩ := He.ba h19
  obtain ⟨a20, h21⟩ := He.ba h20
  obtain ⟨a21, h22⟩ := He.ba h21
  obtain ⟨a22, h23⟩ := He.ba h22
  obtain ⟨a23, h24⟩ := He.ba h23
  obtain ⟨a24, h25⟩ := He.ba h24
  obtain ⟨a25, h26⟩ := He.ba h25
  obtain ⟨a26, h27⟩ := He.ba h26
  obtain ⟨a27, h28⟩ := He.ba h27
  obtain ⟨a28, h29⟩ := He.ba h28
  obtain ⟨a29, h30⟩ := He.ba h29
  obtain ⟨a30, h31⟩ := He.ba h30
  obtain ⟨a31, h32⟩ := He.ba h31
  obtain ⟨a32, h33⟩ := He.ba h32
  obtain ⟨a33, h34⟩ := He.ba h33
  obtain ⟨a34, h35⟩ := He.ba h34
  obtain ⟨a35, h36⟩ := He.ba h35
  obtain ⟨a36, h37⟩ := He.ba h36
  obtain ⟨a37, h38⟩ := He.ba h37
  obtain ⟨a38, h39⟩ := He.ba h38
  obtain ⟨a39, h40⟩ := He.ba h39
  obtain ⟨a40, h41⟩ := He.ba h40
  obtain ⟨a41, h42⟩ := He.ba h41
  obtain ⟨a42, h43⟩ := He.ba h42
  obtain ⟨a43, h44⟩ := He.ba h43
  obtain ⟨a44, h45⟩ := He.ba h44
  obtain ⟨a45, h46⟩ := He.ba h45
  obtain ⟨a46, h47⟩ := He.ba h46
  obtain ⟨a47, h48⟩ := He.ba h47
  obtain ⟨a48, h49⟩ := He.ba h48
  obtain ⟨a49, h50⟩ := He.ba h49
  obtain ⟨a50, h51⟩ := He.ba h50
  obtain ⟨a51, h52⟩ := He.ba h51
  obtain ⟨a52, h53⟩ := He.ba h52
  obtain ⟨a53, h54⟩ := He.ba h53
  obtain ⟨a54, h55⟩ := He.ba h54
  obtain ⟨a55, h56⟩ := He.ba h55
  obtain ⟨a56, h57⟩ := He.ba h56
  obtain ⟨a57, h58⟩ := He.ba h57
  obtain ⟨a58, h59⟩ := He.ba h58
  obtain ⟨a59, h60⟩ := He.ba h59
  obtain ⟨a60, h61⟩ := He.ba h60
  obtain ⟨a61, h62⟩ := He.ba h61
  obtain ⟨a62, h63⟩ := He.ba h62
  obtain ⟨a63, h64⟩ := He.ba h63
  obtain ⟨a64, h65⟩ := He.ba h64
  obtain ⟨a65, h66⟩ := He.ba h65
  obtain ⟨a66, h67⟩ := He.ba h66
  obtain ⟨a67, h68⟩ := He.ba h67
  obtain ⟨a68, h69⟩ := He.ba h68
  obtain ⟨a69, h70⟩ := He.ba h69
  obtain ⟨a70, h71⟩ := He.ba h70
  obtain ⟨a71, h72⟩ := He.ba h71
  obtain ⟨a72, h73⟩ := He.ba h72
  obtain ⟨a73, h74⟩ := He.ba h73
  obtain ⟨a74, h75⟩ := He.ba h74
  obtain ⟨a75, h76⟩ := He.ba h75
  obtain ⟨a76, h77⟩ := He.ba h76
  obtain ⟨a77, h78⟩ := He.ba h77
  obtain ⟨a78, h79⟩ := He.ba h78
  obtain ⟨a79, h80⟩ := He.ba h79
  obtain ⟨a80, h81⟩ := He.ba h80
  obtain ⟨a81, h82⟩ := He.ba h81
  obtain ⟨a82, h83⟩ := He.ba h82
  obtain ⟨a83, h84⟩ := He.ba h83
  obtain ⟨a84, h85⟩ := He.ba h84
  obtain ⟨a85, h86⟩ := He.ba h85
  obtain ⟨a86, h87⟩ := He.ba h86
  obtain ⟨a87, h88⟩ := He.ba h87
  obtain ⟨a88, h89⟩ := He.ba h88
  obtain ⟨a89, h90⟩ := He.ba h89
  obtain ⟨a90, h91⟩ := He.ba h90
  obtain ⟨a91, h92⟩ := He.ba h91
  obtain ⟨a92, h93⟩ := He.ba h92
  obtain ⟨a93, h94⟩ := He.ba h93
  obtain ⟨a94, h95⟩ := He.ba h94
  obtain ⟨a95, h96⟩ := He.ba h95
  obtain ⟨a96, h97⟩ := He.ba h96
  obtain ⟨a97, h98⟩ := He.ba h97
  obtain ⟨a98, h99⟩ := He.ba h98
  obtain ⟨a99, h100⟩ := He.ba h99
  obtain ⟨a100, h101⟩ := He.ba h100
  obtain ⟨a101, h102⟩ := He.ba h101
  obtain ⟨a102, h103⟩ := He.ba h102
  obtain ⟨a103, h104⟩ := He.ba h103
  obtain ⟨a104, h105⟩ := He.ba h104
  obtain ⟨a105, h106⟩ := He.ba h105
  obtain ⟨a106, h107⟩ := He.ba h106
  obtain ⟨a107, h108⟩ := He.ba h107
  obtain ⟨a108, h109⟩ := He.ba h108
  obtain ⟨a109, h110⟩ := He.ba h109
  obtain ⟨a110, h111⟩ := He.ba h110
  obtain ⟨a111, h112⟩ := He.ba h111
  obtain ⟨a112, h113⟩ := He.ba h112
  obtain ⟨a113, h114⟩ := He.ba h113
  obtain ⟨a114, h115⟩ := He.ba h114
  obtain ⟨a115, h116⟩ := He.ba h115
  obtain ⟨a116, h117⟩ := He.ba h116
  obtain ⟨a117, h118⟩ := He.ba h117
  obtain ⟨a118, h119⟩ := He.ba h118
  obtain ⟨a119, h120⟩ := He.ba h119
  obtain ⟨a120, h121⟩ := He.ba h120
  obtain ⟨a121, h122⟩ := He.ba h121
  obtain ⟨a122, h123⟩ := He.ba h122
  obtain ⟨a123, h124⟩ := He.ba h123
  obtain ⟨a124, h125⟩ := He.ba h124
  obtain ⟨a125, h126⟩ := He.ba h125
  obtain ⟨a126, h127⟩ := He.ba h126
  obtain ⟨a127, h128⟩ := He.ba h127
  have a128 := h128
  exact ⟨He.free_ok X G a0, He.free_ok X G a1, He.free_ok X G a2, He.free_ok X G a3, He.free_ok X G a4, He.free_ok X G a5, He.free_ok X G a6, He.free_ok X G a7, He.free_ok X G a8, He.free_ok X G a9, He.free_ok X G a10, He.free_ok X G a11, He.free_ok X G a12, He.free_ok X G a13, gloB_ok X G a14, gloB_ok X G a15, gloB_ok X G a16, gloB_ok X G a17, gloB_ok X G a18, gloB_ok X G a19, gloB_ok X G a20, He.glo_ok X G a21, He.glo_ok X G a22, He.glo_ok X G a23, He.glo_ok X G a24, He.glo_ok X G a25, He.glo_ok X G a26, He.glo_ok X G a27, He.glo_ok X G a28, He.glo_ok X G a29, He.glo_ok X G a30, He.glo_ok X G a31, He.glo_ok X G a32, He.glo_ok X G a33, He.glo_ok X G a34, He.glo_ok X G a35, He.glo_ok X G a36, He.glo_ok X G a37, He.glo_ok X G a38, He.glo_ok X G a39, He.glo_ok X G a40, He.glo_ok X G a41, He.glo_ok X G a42, He.glo_ok X G a43, He.glo_ok X G a44, He.glo_ok X G a45, He.glo_ok X G a46, He.glo_ok X G a47, He.glo_ok X G a48, He.glo_ok X G a49, He.glo_ok X G a50, He.glo_ok X G a51, He.glo_ok X G a52, He.glo_ok X G a53, He.glo_ok X G a54, xc0B_ok a55, xc0B_ok a56, xc0B_ok a57, xc0B_ok a58, xc0B_ok a59, exkB_ok a60, exkB_ok a61, exkB_ok a62, exkB_ok a63, exkB_ok a64, exkB_ok a65, exkB_ok a66, exkB_ok a67, exkB_ok a68, exkB_ok a69, exkB_ok a70, exkB_ok a71, exkB_ok a72, exkB_ok a73, exkB_ok a74, exkB_ok a75, exkB_ok a76, exkB_ok a77, exkB_ok a78, exkB_ok a79, exiB_ok a80, exiB_ok a81, exiB_ok a82, exiB_ok a83, exiB_ok a84, exiB_ok a85, exiB_ok a86, exiB_ok a87, exiB_ok a88, exiB_ok a89, exiB_ok a90, exiB_ok a91, exiB_ok a92, exiB_ok a93, exiB_ok a94, exiB_ok a95, exiB_ok a96, exiB_ok a97, exiB_ok a98, exiB_ok a99, exnB_ok a100, exnB_ok a101, exnB_ok a102, exnB_ok a103, exnB_ok a104, exnB_ok a105, exnB_ok a106, exnB_ok a107, exnB_ok a108, exnB_ok a109, exnB_ok a110, exnB_ok a111, exnB_ok a112, exnB_ok a113, exnB_ok a114, exnB_ok a115, exnB_ok a116, exnB_ok a117, exnB_ok a118, exnB_ok a119, exnB_ok a120, errlB_ok a121, ktoB_ok a122, ktbB_ok a123, errfB_ok a124, errfB_ok a125, errfB_ok a126, errfB_ok a127, isiB_ok a128, c.def_ 0, c.def_ 1, c.def_ 2, c.def_ 3, c.def_ 4, c.def_ 5, c.def_ 6, c.def_ 7, c.def_ 8, c.def_ 9, c.def_ 10, c.def_ 11, c.def_ 12, c.def_ 13, c.def_ 14, c.def_ 15, c.def_ 16, c.def_ 17, c.def_ 18, c.def_ 19, c.def_ 20, c.def_ 21, c.def_ 22, c.def_ 23, c.def_ 24, c.def_ 25, c.def_ 26, c.def_ 27, c.def_ 28⟩
theorem ob_eq (s : PySem.W.SharedT) : ob s = hk.obs s.abs := obsMG_eq (HandSHeadRun.getT_eq s)
end Law

section
namespace Law
open PySem PySem.Spec PyProof.Rows L2 Mir
section
open HandSHeadRun PySem.W PySem.Calls
end
end Law
open PySem PySem.W PySem.Calls PyProof.Rows
theorem law_of (hm : ∀ ns : List Int, ns.length ≤ 63 → ∃ S', Law.m_law [.p (.scr (ns.map Mir.P.int))] [] = .ok (.p (.bl true)) S') : PySem.Challenge.rw_closedinner_k01_errors_and_limits.Holds := by
  w_on; o_law
  refine HandSHeadRun.head_any (r := OpenLaw.row PySem.Challenge.rw_closedinner_k01_errors_and_limits) (q := view (OpenLaw.row PySem.Challenge.rw_closedinner_k01_errors_and_limits).prog [42]) (H := Law.hk) (ob := Law.ob) (M := 6500) (loose := Law.loose) (d := HandSHeadRun.topDef (OpenLaw.row PySem.Challenge.rw_closedinner_k01_errors_and_limits).prog 42) (kwd := []) Law.ob_eq
    (by kernel_rfl) (fun s => by kernel_rfl) Law.run (by kernel_rfl) (by kernel_rfl) (by kernel_rfl) (by rfl) (by first | assumption | decide +kernel) (by decide +kernel) ⟨rfl, rfl, rfl, rfl, rfl, by decide +kernel⟩ ?hw ?hc
  case hw => w_witness2
  case hc =>
    refine Mir.walkG (l := PySem.Challenge.rw_closedinner_k01_errors_and_limits) (n := 63) (k := 5) (x := "_law_script") (m := Law.m_law) rfl (by decide) (by kernel_rfl) ⟨⟨rfl, by decide, by decide⟩, rfl⟩ ?F hm
    intro w mg fa h Y G hmg0
    obtain ⟨K, KX, c⟩ := Y
    have T := Law.tp_of KX G c
    have hmg : mg ("law" : PySem.Str) = some (.ref fa) := by
      have e : (HandSHeadRun.topDef (OpenLaw.row PySem.Challenge.rw_closedinner_k01_errors_and_limits).prog 42).name = ("law" : PySem.Str) := by kernel_rfl
      rw [← e]
      exact hmg0
    have e := hmg.symm.trans T.g_law
    cases e
    obtain ⟨fd, F⟩ := T.d_law
    have b := L2.FunD.bindsA (ps := ["_law_script"]) F fun _ _ _ _ _ _ us hl => match us, hl with | [_], _ => rfl
    refine ⟨K, fd, KX, fun s v => b s [v] rfl, fun base _ _ => ?_⟩
    obtain ⟨fd', F', _, _, hp⟩ := (Law.g_law (P := (PySem.Challenge.rw_closedinner_k01_errors_and_limits).prog) (w := w) (base := base) T).fn
    have e2 := (Mir.FunD.at_ F).symm.trans hp
    cases e2
    exact F'
end

namespace Pl
def row (rows : List (List Nat)) (k : Nat) : List Nat := rows.getD k []
def upd1 (k : Nat) (rows : List (List Nat)) (j : Nat) : List (List Nat) := rows.set k (row rows k ++ (row rows j).filter fun e => !(row rows k).contains e)
def Sub (n : Nat) (a b : List (List Nat)) : Prop := ∀ i, i < n → ∀ e ∈ row a i, e ∈ row b i
theorem Sub.refl {n : Nat} {a : List (List Nat)} : Sub n a a := fun _ _ _ h => h
theorem Sub.trans {n : Nat} {a b c : List (List Nat)} (h : Sub n a b) (h' : Sub n b c) : Sub n a c := fun i hi e he => h' i hi e (h i hi e he)
section
variable {n : Nat} {rows : List (List Nat)} {T : Nat → Nat → Prop}
end
def B (r : Nat → Nat → Bool) (n : Nat) : Nat → Nat → Nat → Bool
  | 0, i, m => i == m
  | t + 1, i, m => (List.range n).any fun a => B r n t i a && r a m
section
variable {r : Nat → Nat → Bool} {n : Nat}
end
end Pl
namespace Pl
end Pl

namespace Mir
open L2
@[simp] theorem bind_ok {A B : Type} (a : A) (S : Sto) (f : A → Sto → Res B) : (Res.ok a S).bind f = f a S := rfl
@[simp] theorem bind_bad {A B : Type} (f : A → Sto → Res B) : (Res.bad : Res A).bind f = .bad := rfl
@[simp] theorem go_ok {A : Type} (a : A) (S : Sto) (ρ : En) (f : A → Sto → RF) : (Res.ok a S).go ρ f = f a S := rfl
@[simp] theorem nox_ok {A : Type} (a : A) (S : Sto) : (Res.ok a S).nox = .ok a S := rfl
@[simp] theorem thn_nx (ρ : En) (S : Sto) (b : MS) : (RF.ok (.nx ρ) S).thn b = b ρ S := rfl
@[simp] theorem thn_rt (d : Vl) (S : Sto) (b : MS) : (RF.ok (.rt d) S).thn b = .ok (.rt d) S := rfl
@[simp] theorem rd_p (S : Sto) (x : P) : rd S (.p x) = some x := rfl
@[simp] theorem nv_p (S : Sto) (x : P) : nv S (.p x) = .p x := rfl
theorem rd_lst {S : Sto} {k : Nat} {xs : List P} (h : S[k]? = some (.lst xs)) : rd S (.c k) = some (.lst xs) := by
  unfold rd
  dsimp only
  rw [h]
theorem nv_lst {S : Sto} {k : Nat} {xs : List P} (h : S[k]? = some (.lst xs)) : nv S (.c k) = .c k := by
  unfold nv
  dsimp only
  rw [h]
theorem nv_lsv {S : Sto} {k : Nat} {xs : List Vl} (h : S[k]? = some (.lsv xs)) : nv S (.c k) = .c k := by
  unfold nv
  dsimp only
  rw [h]
theorem rd_fz {S : Sto} {k : Nat} {x : P} (h : S[k]? = some (.fz x)) : rd S (.c k) = some x := by
  unfold rd
  dsimp only
  rw [h]
theorem nv_fz {S : Sto} {k : Nat} {x : P} (h : S[k]? = some (.fz x)) : nv S (.c k) = .p x := by
  unfold nv
  dsimp only
  rw [h]
def ofO (o : Option P) (S : Sto) : Res Vl := match o with
  | some z => .ok (.p z) S
  | none => .bad
@[simp] theorem ofO_some (z : P) (S : Sto) : ofO (some z) S = .ok (.p z) S := rfl
@[simp] theorem op1_p (f : P → Option P) (x : P) (S : Sto) : op1 f (.p x) S = ofO (f x) S := rfl
@[simp] theorem op2_pp (f : P → P → Option P) (x y : P) (S : Sto) : op2 f (.p x) (.p y) S = ofO (f x y) S := rfl
theorem op2_rd {f : P → P → Option P} {d e : Vl} {x y : P} {S : Sto} (h1 : rd S d = some x) (h2 : rd S e = some y) : op2 f d e S = ofO (f x y) S := by
  unfold op2
  rw [h1, h2]
  rfl
theorem op1_rd {f : P → Option P} {d : Vl} {x : P} {S : Sto} (h1 : rd S d = some x) : op1 f d S = ofO (f x) S := by
  unfold op1
  rw [h1]
  rfl
@[simp] theorem rds_nil (S : Sto) : rds S [] = some [] := rfl
@[simp] theorem rds_p (S : Sto) (x : P) (ds : List Vl) : rds S (.p x :: ds) = (rds S ds).bind fun xs => some (x :: xs) := rfl
theorem rds_rd {S : Sto} {d : Vl} {x : P} {ds : List Vl} (h : rd S d = some x) : rds S (d :: ds) = (rds S ds).bind fun xs => some (x :: xs) := by
  show ((rd S d).bind fun x => (rds S ds).bind fun xs => some (x :: xs)) = _
  rw [h]
  rfl
@[simp] theorem call1_eq (f : List P → Option P) (ds : List Vl) (S : Sto) : call1 f ds S = (match rds S ds with
  | some xs => ofO (f xs) S
  | none => .bad) := rfl
section
variable (ρ : En) (S : Sto) (a b c : ME) (t u : MT) (m r : MA) (s s' : MS)
@[simp] theorem eVar_0 (d : Vl) : eVar 0 (some d :: ρ) S = .ok d S := rfl
@[simp] theorem eVar_s (i : Nat) (x : Option Vl) : eVar (i + 1) (x :: ρ) S = eVar i ρ S := by
  unfold eVar
  rw [List.getElem?_cons_succ]
@[simp] theorem eC_eq (x : P) : eC x ρ S = .ok (.p x) S := rfl
@[simp] theorem eBin_eq (f : P → P → Option P) : eBin f a b ρ S = (a ρ S).bind fun x S1 => (b ρ S1).bind fun y S2 => op2 f x y S2 := rfl
@[simp] theorem eUn_eq (f : P → Option P) : eUn f a ρ S = (a ρ S).bind fun x S1 => op1 f x S1 := rfl
@[simp] theorem eItem_eq : eItem a b ρ S = (a ρ S).bind fun d S1 => (b ρ S1).bind fun i S2 => ixV (nv S2 d) i S2 := rfl
@[simp] theorem eCall_eq (f : List P → Option P) : eCall f m ρ S = (m ρ S).bind fun ds S1 => call1 f ds S1 := rfl
@[simp] theorem eFn_eq (f : MF) : eFn f m ρ S = (m ρ S).bind f := rfl
@[simp] theorem aNil_eq : aNil ρ S = .ok [] S := rfl
@[simp] theorem aCons_eq : aCons a m ρ S = (a ρ S).bind fun x S1 => (m ρ S1).bind fun xs S2 => .ok (x :: xs) S2 := rfl
@[simp] theorem tst_bl (b : Bool) : tst (.p (.bl b)) S = .ok b S := rfl
@[simp] theorem tVal_eq : tVal a ρ S = (a ρ S).bind tst := rfl
@[simp] theorem tAnd_eq : tAndM t u ρ S = (t ρ S).bind fun x S1 => match x with
  | true => u ρ S1
  | false => .ok false S1 := rfl
@[simp] theorem tOr_eq : tOrM t u ρ S = (t ρ S).bind fun x S1 => match x with
  | true => .ok true S1
  | false => u ρ S1 := rfl
@[simp] theorem tNot_eq : tNotM t ρ S = (t ρ S).bind fun x S1 => .ok (!x) S1 := rfl
@[simp] theorem eAnd_eq : eAndM a b ρ S = (a ρ S).bind fun x S1 => (tst x S1).bind fun c S2 => match c with
  | true => b ρ S2
  | false => .ok (.p (.bl false)) S2 := rfl
@[simp] theorem eOr_eq : eOrM a b ρ S = (a ρ S).bind fun x S1 => (tst x S1).bind fun c S2 => match c with
  | true => .ok (.p (.bl true)) S2
  | false => b ρ S2 := rfl
@[simp] theorem eNot_eq : eNotM a ρ S = (a ρ S).bind fun x S1 => (tst x S1).bind fun c S2 => .ok (.p (.bl (!c))) S2 := rfl
@[simp] theorem eIf_eq : eIfM t a b ρ S = (t ρ S).bind fun x S1 => match x with
  | true => a ρ S1
  | false => b ρ S1 := rfl
@[simp] theorem eIsN_eq : eIsN a ρ S = (a ρ S).bind fun x S1 => .ok (.p (.bl (isN x))) S1 := rfl
@[simp] theorem eNotN_eq : eNotN a ρ S = (a ρ S).bind fun x S1 => .ok (.p (.bl (!isN x))) S1 := rfl
@[simp] theorem eTup_eq : eTup m ρ S = (m ρ S).bind fun xs S1 => (frzs xs S1).bind fun ys S2 => if ys.length ≤ 100000 then .ok (.p (.tup ys)) S2 else .bad := rfl
@[simp] theorem eLst_eq : eLst m ρ S = (m ρ S).bind fun xs S1 => (frzs xs S1).bind fun ys S2 => if ys.length ≤ 100000 then .ok (.p (.lst ys)) S2 else .bad := rfl
@[simp] theorem eLstC_eq : eLstC m ρ S = (m ρ S).bind fun xs S1 => (frzs xs S1).bind fun ys S2 => if ys.length ≤ 100000 then .ok (.c S2.length) (S2 ++ [.lst ys]) else .bad := rfl
@[simp] theorem frzs_nil : frzs [] S = .ok [] S := rfl
@[simp] theorem frzs_cons (d : Vl) (ds : List Vl) : frzs (d :: ds) S = (frz d S).bind fun y S1 => (frzs ds S1).bind fun ys S2 => .ok (y :: ys) S2 := rfl
@[simp] theorem eMthT_p (T : String) (f : P → List P → Option P) : eMthT T f a m ρ S = (a ρ S).bind fun d S1 => match rd S1 d with
  | some x => if tyP T x then (m ρ S1).bind fun ds S2 => call1 (fun xs => match xs with
    | x :: r => f x r
    | [] => none) (d :: ds) S2 else .bad
  | none => .bad := rfl
@[simp] theorem eMut_eq (g : Sto → Vl → Bool) (f : FM) : eMut g f a m ρ S = (a ρ S).bind fun d S1 => if g S1 d then (m ρ S1).bind fun ds S2 => f d ds S2 else .bad := rfl
@[simp] theorem sSeq_eq : sSeq s s' ρ S = (s ρ S).thn s' := rfl
@[simp] theorem sPass_eq : sPass ρ S = .ok (.nx ρ) S := rfl
@[simp] theorem sExpr_eq : sExpr a ρ S = (a ρ S).go ρ fun _ S1 => .ok (.nx ρ) S1 := rfl
@[simp] theorem sRet_eq : sRet a ρ S = (a ρ S).go ρ fun d S1 => .ok (.rt d) S1 := rfl
@[simp] theorem sIf_eq : sIf t s s' ρ S = (t ρ S).go ρ fun c S1 => match c with
  | true => s ρ S1
  | false => s' ρ S1 := rfl
@[simp] theorem sAsg_eq (g : MG) : sAsg a g ρ S = (a ρ S).go ρ fun d S1 => ((g d ρ S1).nox).go ρ fun ρ1 S2 => .ok (.nx ρ1) S2 := rfl
@[simp] theorem sPar_eq (i j : Nat) : sPar i j m ρ S = (m ρ S).go ρ fun ds S1 => match ds with
  | [d, d2] => .ok (.nx ((ρ.set i (some d)).set j (some d2))) S1
  | _ => .bad := rfl
@[simp] theorem sPar3_eq (i j l : Nat) : sPar3 i j l m ρ S = (m ρ S).go ρ fun ds S1 => match ds with
  | [d, d2, d3] => .ok (.nx (((ρ.set i (some d)).set j (some d2)).set l (some d3))) S1
  | _ => .bad := rfl
@[simp] theorem sParG_eq (n : Nat) (g : MGs) : sParG n m g ρ S = (m ρ S).go ρ fun ds S1 => if ds.length = n ∧ n ≤ 100000 then ((g ds ρ S1).nox).go ρ fun ρ1 S2 => .ok (.nx ρ1) S2 else .bad := rfl
@[simp] theorem gNm_eq (i : Nat) (d : Vl) : gNm i d ρ S = .ok (ρ.set i (some d)) S := rfl
@[simp] theorem gNl_eq : gNl [] ρ S = .ok ρ S := rfl
@[simp] theorem gCn_eq (g : MG) (r : MGs) (d : Vl) (ds : List Vl) : gCn g r (d :: ds) ρ S = (g d ρ S).nox.bind fun ρ1 S1 => r ds ρ1 S1 := rfl
@[simp] theorem gTp_eq (n : Nat) (r : MGs) (xs : List P) : gTp n r (.p (.tup xs)) ρ S = if xs.length = n then r (xs.map Vl.p) ρ S else .bad := rfl
@[simp] theorem gSub_eq (d : Vl) : gSubM a b d ρ S = (a ρ S).nox.bind fun o S1 => (b ρ S1).nox.bind fun i S2 => (setV o i d S2).bind fun _ S3 => .ok ρ S3 := rfl
@[simp] theorem gFld_eq (c f : PySem.Str) (d : Vl) : gFldM c f a d ρ S = (a ρ S).nox.bind fun o S1 => (fSet c f o d S1).bind fun _ S2 => .ok ρ S2 := rfl
@[simp] theorem sFor_eq (it : MI) (g : MG) : sFor it g s ρ S = (it ρ S).go ρ fun xs S1 => forGo g s xs ρ S1 := rfl
@[simp] theorem itOf_eq : itOf a ρ S = (a ρ S).bind fun d S1 => (frz d S1).bind fun x S2 => match itemsP x with
  | some xs => .ok xs S2
  | none => .bad := rfl
@[simp] theorem eSl_eq (l h : En → Sto → Res (Option Int)) : eSl a l h ρ S = (a ρ S).bind fun d S1 => (l ρ S1).bind fun lo S2 => (h ρ S2).bind fun hi S3 => op1 (pSl lo hi) d S3 := rfl
@[simp] theorem oNo_eq : oNo ρ S = .ok none S := rfl
@[simp] theorem oYes_eq : oYes a ρ S = (a ρ S).bind intV := rfl
@[simp] theorem intV_int (i : Int) : intV (.p (.int i)) S = .ok (some i) S := rfl
@[simp] theorem eFld_eq (c f : PySem.Str) : eFld c f a ρ S = (a ρ S).bind fun d S1 => fldV c f (nv S1 d) S1 := rfl
@[simp] theorem eProp_eq (c : PySem.Str) (f : MF) : eProp c f a ρ S = (a ρ S).bind fun d S1 => if isC c S1 (nv S1 d) then (f [d] S1).nox else .bad := rfl
@[simp] theorem eMeth_eq (c f : PySem.Str) (g : MF) : eMeth c f g a m ρ S = (a ρ S).bind fun d S1 => if isO c f S1 (nv S1 d) then (m ρ S1).bind fun ds S2 => g (d :: ds) S2 else .bad := rfl
@[simp] theorem eMake_eq (kp : Bool) (c : PySem.Str) (g : MF) : eMake kp c g m ρ S = (m ρ S).bind fun ds S1 => mkO kp c g ds S1 := rfl
end
@[simp] theorem ixV_p (x : P) (i : Vl) (S : Sto) : ixV (.p x) i S = op2 pIx (.p x) i S := by
  cases i <;> rfl
theorem ixV_lst {S : Sto} {k : Nat} {xs : List P} {j : Int} (h : S[k]? = some (.lst xs)) : ixV (.c k) (.p (.int j)) S = ofO (atI xs j) S := by
  unfold ixV
  dsimp only
  rw [h]
  show op2 pIx (.c k) (.p (.int j)) S = _
  rw [op2_rd (rd_lst h) (rd_p _ _)]
  rfl
@[simp] theorem pIB_int (g : Int → Int → Bool) (i j : Int) : pIB g (.int i) (.int j) = some (.bl (g i j)) := rfl
@[simp] theorem pI_int (g : Int → Int → Int) (i j : Int) : pI g (.int i) (.int j) = some (.int (g i j)) := rfl
@[simp] theorem pIC_int (C : Int → Int → Bool) (g : Int → Int → Int) (i j : Int) : pIC C g (.int i) (.int j) = if C i j then some (.int (g i j)) else none := rfl
@[simp] theorem pAdd_int (i j : Int) : pAdd (.int i) (.int j) = some (.int (i + j)) := rfl
@[simp] theorem pAdd_str (x y : List Nat) : pAdd (.str x) (.str y) = if x.length + y.length ≤ 100000 then some (.str (x ++ y)) else none := rfl
@[simp] theorem pAdd_lst (x y : List P) : pAdd (.lst x) (.lst y) = if x.length + y.length ≤ 100000 then some (.lst (x ++ y)) else none := rfl
@[simp] theorem pAdd_tup (x y : List P) : pAdd (.tup x) (.tup y) = if x.length + y.length ≤ 100000 then some (.tup (x ++ y)) else none := rfl
@[simp] theorem pMul_int (i j : Int) : pMul (.int i) (.int j) = if bMul i j then some (.int (i * j)) else none := rfl
@[simp] theorem pInt_int (i : Int) : pInt [.int i] = some (.int i) := rfl
@[simp] theorem pAbs_int (i : Int) : pAbs [.int i] = some (.int (if i < 0 then -i else i)) := rfl
@[simp] theorem pDivmod_int (i j : Int) : pDivmod [.int i, .int j] = if bDiv i j then some (.tup [.int (i / j), .int (i % j)]) else none := rfl
@[simp] theorem pLen_lst (xs : List P) : pLen [.lst xs] = some (.int xs.length) := rfl
@[simp] theorem pLen_scr (xs : List P) : pLen [.scr xs] = some (.int xs.length) := rfl
@[simp] theorem pLen_tup (xs : List P) : pLen [.tup xs] = some (.int xs.length) := rfl
@[simp] theorem pLen_str (x : List Nat) : pLen [.str x] = if x.length ≤ 100000 then some (.int x.length) else none := rfl
@[simp] theorem pTuple_lst (xs : List P) : pTuple [.lst xs] = some (.tup xs) := rfl
@[simp] theorem pTuple_tup (xs : List P) : pTuple [.tup xs] = some (.tup xs) := rfl
@[simp] theorem pList_lst (xs : List P) : pList [.lst xs] = some (.lst xs) := rfl
@[simp] theorem pIx_lst (xs : List P) (i : Int) : pIx (.lst xs) (.int i) = atI xs i := rfl
@[simp] theorem pIx_scr (xs : List P) (i : Int) : pIx (.scr xs) (.int i) = atI xs i := rfl
@[simp] theorem pIx_tup (xs : List P) (i : Int) : pIx (.tup xs) (.int i) = atI xs i := rfl
@[simp] theorem itemsP_lst (xs : List P) : itemsP (.lst xs) = some xs := rfl
@[simp] theorem itemsP_tup (xs : List P) : itemsP (.tup xs) = some xs := rfl
@[simp] theorem itemsP_str (x : List Nat) : itemsP (.str x) = some (x.map fun c => .str [c]) := rfl
theorem bMul_l {i j : Int} (h : -(2 ^ 64) < i) (h' : i < 2 ^ 64) : bMul i j = true := by
  unfold bMul
  rw [decide_eq_true h, decide_eq_true h']
  rfl
theorem bMul_r {i j : Int} (h : -(2 ^ 64) < j) (h' : j < 2 ^ 64) : bMul i j = true := by
  unfold bMul
  rw [decide_eq_true h, decide_eq_true h']
  simp
theorem bDiv_of {i j : Int} (h : 0 < j) (h' : j < 1073741824) : bDiv i j = true := by
  unfold bDiv
  rw [decide_eq_true h, decide_eq_true h']
  rfl
theorem bMod_of {i j : Int} (h : 0 < j) : bMod i j = true := decide_eq_true h
theorem atN {A : Type} {xs : List A} {i : Nat} {x : A} (h : xs[i]? = some x) : atI xs (i : Int) = some x := by
  have hl := (List.getElem?_eq_some_iff.mp h).1
  unfold atI ixN
  rw [if_pos (by omega), if_pos (by omega)]
  exact h
@[simp] theorem atI_0 {A : Type} (x : A) (xs : List A) : atI (x :: xs) 0 = some x := atN (i := 0) rfl
@[simp] theorem atI_1 {A : Type} (x y : A) (xs : List A) : atI (x :: y :: xs) 1 = some y := atN (i := 1) rfl
@[simp] theorem atI_2 {A : Type} (x y z : A) (xs : List A) : atI (x :: y :: z :: xs) 2 = some z := atN (i := 2) rfl
theorem get_set_self {S : Sto} {k : Nat} {c c' : Cell} (h : S[k]? = some c) : (S.set k c')[k]? = some c' := by
  rw [List.getElem?_set_self (List.getElem?_eq_some_iff.mp h).1]
theorem get_set_ne {S : Sto} {k j : Nat} {c' : Cell} (h : k ≠ j) : (S.set k c')[j]? = S[j]? := List.getElem?_set_ne h
theorem setV_lst {S : Sto} {k n : Nat} {xs : List P} {j : Int} {x : P} (h : S[k]? = some (.lst xs)) (hj : ixN xs.length j = some n) : setV (.c k) (.p (.int j)) (.p x) S = .ok () (S.set k (.lst (xs.set n x))) := by
  unfold setV
  dsimp only
  rw [h]
  dsimp only
  rw [frz_p, bind_ok, h]
  dsimp only
  rw [hj]
end Mir
namespace Mir
open L2
@[simp] theorem endF_p (n : Nat) (x : P) (S : Sto) : endF n (.ok (.rt (.p x)) S) = .ok (.p x) (S.take n) := rfl
@[simp] theorem endF_nx (n : Nat) (ρ : En) (S : Sto) : endF n (.ok (.nx ρ) S) = .ok (.p .non) (S.take n) := rfl
theorem take_len {S S' : Sto} (h : S'.length = S.length) : S'.take S.length = S' := List.take_of_length_le (by omega)
@[simp] theorem take_self (S : Sto) : S.take S.length = S := List.take_of_length_le (Nat.le_refl _)
@[simp] theorem take_app (S T : Sto) : (S ++ T).take S.length = S := by simp
theorem mkF_eq (n k : Nat) (b : MS) (ds : List Vl) (S : Sto) (h : ds.length = n) : mkF n k b ds S = endF S.length (b (ds.map some ++ List.replicate k none) S) := if_pos h
theorem forGo_cons (g : MG) (b : MS) (x : P) (xs : List P) (ρ : En) (S : Sto) : forGo g b (x :: xs) ρ S = ((g (.p x) ρ S).nox).go ρ fun ρ1 S1 => match b ρ1 S1 with
    | .ok (.nx ρ2) S2 => forGo g b xs ρ2 S2
    | .ok (.ct ρ2) S2 => forGo g b xs ρ2 S2
    | .ok (.bk ρ2) S2 => .ok (.nx ρ2) S2
    | .ok (.rt d) S2 => .ok (.rt d) S2
    | .ok (.xc ρ2 c x) S2 => .ok (.xc ρ2 c x) S2
    | .bad => .bad := rfl
end Mir
namespace Mir
open L2
@[simp] theorem pEq_int (i j : Int) : pEq (.int i) (.int j) = some (.bl (i == j)) := rfl
@[simp] theorem pNe_int (i j : Int) : pNe (.int i) (.int j) = some (.bl (!(i == j))) := rfl
@[simp] theorem rangeP_length (lo : Int) (n : Nat) : (rangeP lo n).length = n := by
  unfold rangeP
  rw [List.length_map, List.length_range]
theorem rangeP_0 (n : Nat) : rangeP 0 n = (List.range n).map fun (k : Nat) => P.int (k : Int) := by
  unfold rangeP
  apply List.map_congr_left
  intro a _
  rw [Int.zero_add]
theorem ixV_lsv {S : Sto} {k : Nat} {xs : List Vl} {j : Int} {x : Vl} (h : S[k]? = some (.lsv xs)) (hx : atI xs j = some x) : ixV (.c k) (.p (.int j)) S = .ok x S := by
  unfold ixV
  dsimp only
  rw [h]
  dsimp only
  rw [hx]
theorem frz_lst {S : Sto} {k : Nat} {xs : List P} (h : S[k]? = some (.lst xs)) : frz (.c k) S = .ok (.lst xs) (S.set k (.fz (.lst xs))) := by
  unfold frz frzN
  dsimp only
  rw [h]
theorem frz_fz {S : Sto} {k : Nat} {x : P} (h : S[k]? = some (.fz x)) : frz (.c k) S = .ok x S := by
  unfold frz frzN
  dsimp only
  rw [h]
end Mir
namespace Mir
open L2
theorem itRange1_nat {a : ME} {ρ : En} {S S1 : Sto} {n : Nat} (h : a ρ S = .ok (.p (.int (n : Int))) S1) (hn : n < 1000000) : itRange1 a ρ S = .ok (rangeP 0 n) S1 := by
  have h1 : (n : Int) < 2 ^ 62 := Int.lt_of_lt_of_le (b := 1000000) (by omega) (by decide)
  have h2 : -(2 ^ 62) ≤ (n : Int) := Int.le_trans (b := 0) (by decide) (by omega)
  unfold itRange1
  rw [h, bind_ok]
  dsimp only
  rw [if_pos ⟨h1, h2⟩, Int.toNat_natCast]
end Mir
namespace Mir
open L2
theorem eCall1_of {g : List P → Option P} {a : ME} {ρ : En} {S S1 : Sto} {x z : P} (h : a ρ S = .ok (.p x) S1) (hg : g [x] = some z) : eCall g (aCons a aNil) ρ S = .ok (.p z) S1 := by
  unfold eCall aCons aNil
  rw [h, bind_ok, bind_ok, bind_ok]
  show (match rds S1 [.p x] with
    | some xs => ofO (g xs) S1
    | none => Res.bad) = _
  rw [rds_p, rds_nil]
  show ofO (g [x]) S1 = _
  rw [hg]
  rfl
end Mir
namespace Mir
open L2
theorem lcGo_gen {A : Type} {g : MG} {t : MT} {e : ME} {ρ : En} {S : Sto} (en : A → P) (q : A → Bool) (f : A → P) : ∀ (ys : List A), (∀ y ∈ ys, ∃ ρ1, g (.p (en y)) ρ S = .ok ρ1 S ∧ t ρ1 S = .ok (q y) S ∧ (q y = true → e ρ1 S = .ok (.p (f y)) S)) →
    lcGo g t e ρ (ys.map en) S = .ok ((ys.filter q).map f) S
  | [], _ => rfl
  | x :: xs, h => by
    obtain ⟨ρ1, h1, h2, h3⟩ := h x List.mem_cons_self
    have ih := lcGo_gen en q f xs fun y hy => h y (List.mem_cons_of_mem _ hy)
    rw [List.map_cons]
    unfold lcGo
    rw [h1, nox_ok, bind_ok, h2, nox_ok, bind_ok]
    cases hq : q x with
    | false =>
      dsimp only
      rw [ih, List.filter_cons_of_neg (by rw [hq]; decide)]
    | true =>
      dsimp only
      rw [h3 hq, nox_ok, bind_ok, frz_p, bind_ok, ih, bind_ok, List.filter_cons_of_pos hq]
      rfl
theorem eLc_gen {A : Type} {it : MI} {vs : List Nat} {g : MG} {t : MT} {e : ME} {ρ : En} {S S1 : Sto} (ys : List A) (en : A → P) (q : A → Bool) (f : A → P) (hi : it ρ S = .ok (ys.map en) S1) (hl : ys.length ≤ 100000)
    (h : ∀ y ∈ ys, ∃ ρ1, g (.p (en y)) (wipeE ρ vs) S1 = .ok ρ1 S1 ∧ t ρ1 S1 = .ok (q y) S1 ∧ (q y = true → e ρ1 S1 = .ok (.p (f y)) S1)) : eLc it vs g t e ρ S = .ok (.p (.lst ((ys.filter q).map f))) S1 := by
  unfold eLc
  rw [hi, bind_ok, if_pos (by rw [List.length_map]; exact hl), lcGo_gen en q f ys h, bind_ok]
theorem eLc_genm {A : Type} {it : MI} {vs : List Nat} {g : MG} {e : ME} {ρ : En} {S S1 : Sto} (ys : List A) (en f : A → P) (hi : it ρ S = .ok (ys.map en) S1) (hl : ys.length ≤ 100000)
    (h : ∀ y ∈ ys, ∃ ρ1, g (.p (en y)) (wipeE ρ vs) S1 = .ok ρ1 S1 ∧ e ρ1 S1 = .ok (.p (f y)) S1) : eLc it vs g tsYes e ρ S = .ok (.p (.lst (ys.map f))) S1 := by
  have := eLc_gen (t := tsYes) (e := e) (g := g) (vs := vs) ys en (fun _ => true) f hi hl (fun x hx => by
    obtain ⟨ρ1, h1, h2⟩ := h x hx
    exact ⟨ρ1, h1, rfl, fun _ => h2⟩)
  rw [this, List.filter_eq_self.mpr (fun _ _ => rfl)]
theorem enumP_eq (xs : List P) : enumP 0 xs = (List.range xs.length).map fun (i : Nat) => P.tup [.int (i : Int), xs.getD i .non] := by
  apply List.ext_getElem?
  intro i
  rw [enumP_get, List.getElem?_map]
  by_cases h : i < xs.length
  · rw [List.getElem?_range h, List.getElem?_eq_getElem h]
    simp [h]
  · rw [List.getElem?_eq_none (by omega), List.getElem?_eq_none (by rw [List.length_range]; omega)]
    rfl
theorem itEnum_p {a : ME} {ρ : En} {S S1 : Sto} {xs : List P} (h : a ρ S = .ok (.p (.lst xs)) S1) : itEnum a ρ S = .ok ((List.range xs.length).map fun (i : Nat) => P.tup [.int (i : Int), xs.getD i .non]) S1 := by
  unfold itEnum
  rw [h, bind_ok, frz_p, bind_ok]
  dsimp only
  rw [enumP_eq]
end Mir

namespace Mir
open L2 Pl
abbrev nums (l : List Nat) : List P := l.map fun (e : Nat) => P.int (e : Int)
@[simp] theorem ints_length (l : List Nat) : (nums l).length = l.length := List.length_map _
end Mir

namespace Mir
open PySem L2
def andK (x : Bool) (r : Res Bool) (S : Sto) : Res Bool := match x with
  | true => r
  | false => .ok false S
def orK (x : Bool) (r : Res Bool) (S : Sto) : Res Bool := match x with
  | true => .ok true S
  | false => r
def eandK (x : Bool) (r : Res Vl) (S : Sto) : Res Vl := match x with
  | true => r
  | false => .ok (.p (.bl false)) S
def eorK (x : Bool) (r : Res Vl) (S : Sto) : Res Vl := match x with
  | true => .ok (.p (.bl true)) S
  | false => r
def ifK {A : Type} (x : Bool) (a b : A) : A := match x with
  | true => a
  | false => b
section
variable {ρ ρ1 ρ2 : En} {S S1 S2 S3 : Sto} {a b c : ME} {t u : MT} {m r : MA} {s s' : MS} {x y z w : P} {d e v : Vl} {ds es : List Vl} {xs ys : List P}
theorem ev_var {i : Nat} (h : ρ[i]? = some (some d)) : eVar i ρ S = .ok d S := by
  unfold eVar
  rw [h]
theorem ev_c : eC x ρ S = .ok (.p x) S := rfl
theorem ev_un {f : P → Option P} (ha : a ρ S = .ok d S1) (hd : rd S1 d = some x) (hf : f x = some z) : eUn f a ρ S = .ok (.p z) S1 := by
  rw [eUn_eq, ha, bind_ok, op1_rd hd, hf, ofO_some]
theorem ev_bin {f : P → P → Option P} (ha : a ρ S = .ok d S1) (hb : b ρ S1 = .ok e S2) (hd : rd S2 d = some x) (he : rd S2 e = some y) (hf : f x y = some z) : eBin f a b ρ S = .ok (.p z) S2 := by
  rw [eBin_eq, ha, bind_ok, hb, bind_ok, op2_rd hd he, hf, ofO_some]
theorem ev_item (ha : a ρ S = .ok d S1) (hb : b ρ S1 = .ok e S2) (hx : ixV (nv S2 d) e S2 = .ok v S2) : eItem a b ρ S = .ok v S2 := by
  rw [eItem_eq, ha, bind_ok, hb, bind_ok, hx]
theorem ixv_p (h : pIx x y = some z) : ixV (nv S (.p x)) (.p y) S = .ok (.p z) S := by
  rw [nv_p, ixV_p, op2_pp, h, ofO_some]
theorem ixv_l {k : Nat} {j : Int} (hk : S[k]? = some (.lst xs)) (h : atI xs j = some z) : ixV (nv S (.c k)) (.p (.int j)) S = .ok (.p z) S := by
  rw [nv_lst hk, ixV_lst hk, h, ofO_some]
theorem ixv_v {k : Nat} {j : Int} {vs : List Vl} (hk : S[k]? = some (.lsv vs)) (h : atI vs j = some v) : ixV (nv S (.c k)) (.p (.int j)) S = .ok v S := by
  rw [nv_lsv hk, ixV_lsv hk h]
theorem ixv_f {k : Nat} (hk : S[k]? = some (.fz x)) (h : pIx x y = some z) : ixV (nv S (.c k)) (.p y) S = .ok (.p z) S := by
  rw [nv_fz hk, ixV_p, op2_pp, h, ofO_some]
theorem rds_c (h : rd S d = some x) (h2 : rds S ds = some xs) : rds S (d :: ds) = some (x :: xs) := by
  rw [rds_rd h, h2]
  rfl
theorem ev_call {f : List P → Option P} (hm : m ρ S = .ok ds S1) (hr : rds S1 ds = some xs) (hf : f xs = some z) : eCall f m ρ S = .ok (.p z) S1 := by
  rw [eCall_eq, hm, bind_ok, call1_eq, hr]
  dsimp only
  rw [hf, ofO_some]
theorem ev_mth {T : String} {f : P → List P → Option P} (ha : a ρ S = .ok d S1) (hr : rd S1 d = some x) (ht : tyP T x = true) (hm : m ρ S1 = .ok ds S2) (hr2 : rd S2 d = some y) (hrs : rds S2 ds = some xs) (hf : f y xs = some z) : eMthT T f a m ρ S = .ok (.p z) S2 := by
  rw [eMthT_p, ha, bind_ok, hr]
  dsimp only
  rw [ht, if_pos rfl, hm, bind_ok, call1_eq, rds_c hr2 hrs]
  dsimp only
  rw [hf, ofO_some]
theorem ev_fn {f : MF} (hm : m ρ S = .ok ds S1) (hf : f ds S1 = .ok v S2) : eFn f m ρ S = .ok v S2 := by
  rw [eFn_eq, hm, bind_ok, hf]
theorem ev_fnK {f : MF} {n kl : Nat} {pm : List Nat} {zs as : List Vl} (hm : m ρ S = .ok ds S1) (hr : r ρ S1 = .ok zs S2) (h1 : ds.length = n) (h2 : zs.length = kl) (hp : permL (.p .non) pm (ds ++ zs) = as) (hf : f as S2 = .ok v S3) : eFnK f n kl pm m r ρ S = .ok v S3 := by
  unfold eFnK
  rw [hm, bind_ok, hr, bind_ok, if_pos ⟨h1, h2⟩, hp, hf]
theorem ev_meth {c f : PySem.Str} {g : MF} (ha : a ρ S = .ok d S1) (hg : isO c f S1 (nv S1 d) = true) (hm : m ρ S1 = .ok ds S2) (hf : g (d :: ds) S2 = .ok v S3) : eMeth c f g a m ρ S = .ok v S3 := by
  rw [eMeth_eq, ha, bind_ok, hg, if_pos rfl, hm, bind_ok, hf]
theorem ev_methK {c f : PySem.Str} {g : MF} {n kl : Nat} {pm : List Nat} {zs as : List Vl} (ha : a ρ S = .ok d S1) (hg : isO c f S1 (nv S1 d) = true) (hm : m ρ S1 = .ok ds S2) (hr : r ρ S2 = .ok zs S3) (h1 : ds.length = n) (h2 : zs.length = kl) {S4 : Sto}
    (hp : permL (.p .non) pm (d :: (ds ++ zs)) = as) (hf : g as S3 = .ok v S4) : eMethK c f g n kl pm a m r ρ S = .ok v S4 := by
  unfold eMethK
  rw [ha, bind_ok, hg, if_pos rfl, hm, bind_ok, hr, bind_ok, if_pos ⟨h1, h2⟩, ← List.cons_append] at *
  first
    | exact hf
    | (rw [hp]; exact hf)
    | (simp only [List.cons_append] at hp ⊢; rw [hp]; exact hf)
theorem ev_make {kp : Bool} {c : PySem.Str} {g : MF} (hm : m ρ S = .ok ds S1) (hf : mkO kp c g ds S1 = .ok v S2) : eMake kp c g m ρ S = .ok v S2 := by
  rw [eMake_eq, hm, bind_ok, hf]
theorem ev_fld {c f : PySem.Str} (ha : a ρ S = .ok d S1) (hf : fldV c f (nv S1 d) S1 = .ok v S1) : eFld c f a ρ S = .ok v S1 := by
  rw [eFld_eq, ha, bind_ok, hf]
theorem ev_prop {c : PySem.Str} {f : MF} (ha : a ρ S = .ok d S1) (hg : isC c S1 (nv S1 d) = true) (hf : f [d] S1 = .ok v S2) : eProp c f a ρ S = .ok v S2 := by
  rw [eProp_eq, ha, bind_ok, hg, if_pos rfl, hf, nox_ok]
theorem ev_isi {cs : List PySem.Str} {T : Tg} {q : Bool} (ha : a ρ S = .ok d S1) (hb : b ρ S1 = .ok (.p y) S2) (ht : tgOf S2 (nv S2 d) = some T) (hi : isT cs T y = some q) : eIsi cs a b ρ S = .ok (.p (.bl q)) S2 := by
  unfold eIsi
  rw [ha, bind_ok, hb, bind_ok, ht]
  dsimp only
  rw [hi]
theorem ev_anil : aNil ρ S = .ok [] S := rfl
theorem ev_acons (ha : a ρ S = .ok d S1) (hm : m ρ S1 = .ok ds S2) : aCons a m ρ S = .ok (d :: ds) S2 := by
  rw [aCons_eq, ha, bind_ok, hm, bind_ok]
theorem ev_tval {q : Bool} (ha : a ρ S = .ok (.p (.bl q)) S1) : tVal a ρ S = .ok q S1 := by
  rw [tVal_eq, ha, bind_ok, tst_bl]
theorem ev_tand {q q2 : Bool} (ht : t ρ S = .ok q S1) (hk : andK q (u ρ S1) S1 = .ok q2 S2) : tAndM t u ρ S = .ok q2 S2 := by
  rw [tAnd_eq, ht, bind_ok]
  exact hk
theorem ev_tor {q q2 : Bool} (ht : t ρ S = .ok q S1) (hk : orK q (u ρ S1) S1 = .ok q2 S2) : tOrM t u ρ S = .ok q2 S2 := by
  rw [tOr_eq, ht, bind_ok]
  exact hk
theorem ev_tnot {q q' : Bool} (ht : t ρ S = .ok q S1) (hq : (!q) = q') : tNotM t ρ S = .ok q' S1 := by
  rw [tNot_eq, ht, bind_ok, hq]
theorem ev_eand {q : Bool} (ha : a ρ S = .ok (.p (.bl q)) S1) (hk : eandK q (b ρ S1) S1 = .ok v S2) : eAndM a b ρ S = .ok v S2 := by
  rw [eAnd_eq, ha, bind_ok, tst_bl, bind_ok]
  exact hk
theorem ev_eor {q : Bool} (ha : a ρ S = .ok (.p (.bl q)) S1) (hk : eorK q (b ρ S1) S1 = .ok v S2) : eOrM a b ρ S = .ok v S2 := by
  rw [eOr_eq, ha, bind_ok, tst_bl, bind_ok]
  exact hk
theorem ev_enot {q q' : Bool} (ha : a ρ S = .ok (.p (.bl q)) S1) (hq : (!q) = q') : eNotM a ρ S = .ok (.p (.bl q')) S1 := by
  rw [eNot_eq, ha, bind_ok, tst_bl, bind_ok, hq]
theorem ev_if {q : Bool} (ht : t ρ S = .ok q S1) (hk : ifK q (a ρ S1) (b ρ S1) = .ok v S2) : eIfM t a b ρ S = .ok v S2 := by
  rw [eIf_eq, ht, bind_ok]
  exact hk
theorem ev_isN (ha : a ρ S = .ok d S1) {q : Bool} (h : isN d = q) : eIsN a ρ S = .ok (.p (.bl q)) S1 := by
  rw [eIsN_eq, ha, bind_ok, h]
theorem ev_notN (ha : a ρ S = .ok d S1) {q : Bool} (h : (!isN d) = q) : eNotN a ρ S = .ok (.p (.bl q)) S1 := by
  rw [eNotN_eq, ha, bind_ok, h]

theorem andK_f {r : Res Bool} : andK false r S = .ok false S := rfl
theorem andK_t {r o : Res Bool} (h : r = o) : andK true r S = o := h
theorem andK_s {q q2 : Bool} {r : Res Bool} (h : q = true → r = .ok q2 S) : andK q r S = .ok (q && q2) S := by
  cases q with
  | false => rfl
  | true => exact h rfl
theorem orK_t {r : Res Bool} : orK true r S = .ok true S := rfl
theorem orK_f {r o : Res Bool} (h : r = o) : orK false r S = o := h
theorem orK_s {q q2 : Bool} {r : Res Bool} (h : q = false → r = .ok q2 S) : orK q r S = .ok (q || q2) S := by
  cases q with
  | true => rfl
  | false => exact h rfl
theorem eandK_f {r : Res Vl} : eandK false r S = .ok (.p (.bl false)) S := rfl
theorem eandK_t {r o : Res Vl} (h : r = o) : eandK true r S = o := h
theorem eandK_s {q q2 : Bool} {r : Res Vl} (h : q = true → r = .ok (.p (.bl q2)) S) : eandK q r S = .ok (.p (.bl (q && q2))) S := by
  cases q with
  | false => rfl
  | true => exact h rfl
theorem eorK_t {r : Res Vl} : eorK true r S = .ok (.p (.bl true)) S := rfl
theorem eorK_f {r o : Res Vl} (h : r = o) : eorK false r S = o := h
theorem eorK_s {q q2 : Bool} {r : Res Vl} (h : q = false → r = .ok (.p (.bl q2)) S) : eorK q r S = .ok (.p (.bl (q || q2))) S := by
  cases q with
  | true => rfl
  | false => exact h rfl
theorem ifK_t {A : Type} {p q o : A} (h : p = o) : ifK true p q = o := h
theorem ifK_f {A : Type} {p q o : A} (h : q = o) : ifK false p q = o := h
theorem ifK_yes {A : Type} {x : Bool} {p q o : A} (hx : x = true) (h : p = o) : ifK x p q = o := by
  subst hx
  exact h
theorem ifK_no {A : Type} {x : Bool} {p q o : A} (hx : x = false) (h : q = o) : ifK x p q = o := by
  subst hx
  exact h
theorem ifK_s {q : Bool} {r r' : Res Vl} (h : q = true → r = .ok (.p x) S) (h' : q = false → r' = .ok (.p y) S) : ifK q r r' = .ok (.p (if q then x else y)) S := by
  cases q with
  | true => exact h rfl
  | false => exact h' rfl
theorem ifK_n {q : Bool} {i j : Nat} {r r' : Res Vl} (h : q = true → r = .ok (.p (.int (i : Int))) S) (h' : q = false → r' = .ok (.p (.int (j : Int))) S) : ifK q r r' = .ok (.p (.int ((if q then i else j : Nat) : Int))) S := by
  cases q with
  | true => exact h rfl
  | false => exact h' rfl
theorem ifK_i {q : Bool} {i j : Int} {r r' : Res Vl} (h : q = true → r = .ok (.p (.int i)) S) (h' : q = false → r' = .ok (.p (.int j)) S) : ifK q r r' = .ok (.p (.int (if q then i else j))) S := by
  cases q with
  | true => exact h rfl
  | false => exact h' rfl

theorem frzs_z : frzs [] S = .ok [] S := rfl
theorem frzs_s (h : frz d S = .ok x S1) (h2 : frzs ds S1 = .ok xs S2) : frzs (d :: ds) S = .ok (x :: xs) S2 := by
  rw [frzs_cons, h, bind_ok, h2, bind_ok]
theorem ev_tup (hm : m ρ S = .ok ds S1) (hf : frzs ds S1 = .ok xs S2) (hl : xs.length ≤ 100000) : eTup m ρ S = .ok (.p (.tup xs)) S2 := by
  rw [eTup_eq, hm, bind_ok, hf, bind_ok, if_pos hl]
theorem ev_lst (hm : m ρ S = .ok ds S1) (hf : frzs ds S1 = .ok xs S2) (hl : xs.length ≤ 100000) : eLst m ρ S = .ok (.p (.lst xs)) S2 := by
  rw [eLst_eq, hm, bind_ok, hf, bind_ok, if_pos hl]
theorem ev_lstC (hm : m ρ S = .ok ds S1) (hf : frzs ds S1 = .ok xs S2) (hl : xs.length ≤ 100000) : eLstC m ρ S = .ok (.c S2.length) (S2 ++ [.lst xs]) := by
  rw [eLstC_eq, hm, bind_ok, hf, bind_ok, if_pos hl]

theorem ev_sl {l h : En → Sto → Res (Option Int)} {lo hi : Option Int} (ha : a ρ S = .ok d S1) (hl : l ρ S1 = .ok lo S2) (hh : h ρ S2 = .ok hi S3) (hd : rd S3 d = some x) (hf : pSl lo hi x = some z) : eSl a l h ρ S = .ok (.p z) S3 := by
  rw [eSl_eq, ha, bind_ok, hl, bind_ok, hh, bind_ok, op1_rd hd, hf, ofO_some]
theorem ev_ono : oNo ρ S = .ok none S := rfl
theorem ev_oyes {i : Int} (ha : a ρ S = .ok (.p (.int i)) S1) : oYes a ρ S = .ok (some i) S1 := by
  rw [oYes_eq, ha, bind_ok, intV_int]

theorem ev_itOf (ha : a ρ S = .ok d S1) (hf : frz d S1 = .ok x S2) (hi : itemsP x = some xs) : itOf a ρ S = .ok xs S2 := by
  rw [itOf_eq, ha, bind_ok, hf, bind_ok, hi]
theorem ev_range1 {n : Nat} (ha : a ρ S = .ok (.p (.int (n : Int))) S1) (hn : n < 1000000) : itRange1 a ρ S = .ok ((List.range n).map fun (k : Nat) => P.int (k : Int)) S1 := by
  rw [itRange1_nat ha hn, rangeP_0]
theorem ev_range1i {i : Int} {n : Nat} (ha : a ρ S = .ok (.p (.int i)) S1) (hi : i = (n : Int)) (hn : n < 1000000) : itRange1 a ρ S = .ok ((List.range n).map fun (k : Nat) => P.int (k : Int)) S1 := by
  subst hi
  exact ev_range1 ha hn
theorem ev_enum_map {A : Type} {ys : List A} {f : A → P} [Inhabited A] (ha : a ρ S = .ok (.p (.lst (ys.map f))) S1) : itEnum a ρ S = .ok ((List.range ys.length).map fun (i : Nat) => P.tup [.int (i : Int), f (ys.getD i default)]) S1 := by
  rw [itEnum_p ha]
  congr 1
  rw [List.length_map]
  apply List.map_congr_left
  intro i hi
  have hi := List.mem_range.mp hi
  simp [hi]
theorem zipP_map {A B : Type} (f : A → P) (g : B → P) : ∀ (xs : List A) (ys : List B), zipP (xs.map f) (ys.map g) = (xs.zip ys).map fun q => P.tup [f q.1, g q.2]
  | [], _ => rfl
  | _ :: _, [] => rfl
  | x :: xs, y :: ys => by
    show _ :: zipP (xs.map f) (ys.map g) = _
    rw [zipP_map f g xs ys]
    rfl
theorem ev_zip {A B : Type} {f : A → P} {g : B → P} {us : List A} {ws : List B} (ha : a ρ S = .ok (.p (.lst (us.map f))) S1) (hb : b ρ S1 = .ok (.p (.lst (ws.map g))) S2) : itZip a b ρ S = .ok ((us.zip ws).map fun q => P.tup [f q.1, g q.2]) S2 := by
  unfold itZip
  rw [ha, bind_ok, hb, bind_ok]
  dsimp only
  rw [zipP_map]

theorem ev_lc {A : Type} {it : MI} {vs : List Nat} {g : MG} {ys : List A} {en f : A → P} {q : A → Bool} {ρ0 : En} {ρ1 : A → En} (hi : it ρ S = .ok (ys.map en) S1) (hl : ys.length ≤ 100000) (hw : wipeE ρ vs = ρ0)
    (hg : ∀ y, y ∈ ys → g (.p (en y)) ρ0 S1 = .ok (ρ1 y) S1) (ht : ∀ y, y ∈ ys → t (ρ1 y) S1 = .ok (q y) S1) (he : ∀ y, y ∈ ys → q y = true → a (ρ1 y) S1 = .ok (.p (f y)) S1) : eLc it vs g t a ρ S = .ok (.p (.lst ((ys.filter q).map f))) S1 := by
  subst hw
  exact eLc_gen ys en q f hi hl fun y hy => ⟨ρ1 y, hg y hy, ht y hy, he y hy⟩
theorem ev_lcm {A : Type} {it : MI} {vs : List Nat} {g : MG} {ys : List A} {en f : A → P} {ρ0 : En} {ρ1 : A → En} (hi : it ρ S = .ok (ys.map en) S1) (hl : ys.length ≤ 100000) (hw : wipeE ρ vs = ρ0)
    (hg : ∀ y, y ∈ ys → g (.p (en y)) ρ0 S1 = .ok (ρ1 y) S1) (he : ∀ y, y ∈ ys → a (ρ1 y) S1 = .ok (.p (f y)) S1) : eLc it vs g tsYes a ρ S = .ok (.p (.lst (ys.map f))) S1 := by
  subst hw
  exact eLc_genm ys en f hi hl fun y hy => ⟨ρ1 y, hg y hy, he y hy⟩
theorem ev_lcx {it : MI} {vs : List Nat} {g : MG} {ρ0 : En} (hi : it ρ S = .ok xs S1) (hl : xs.length ≤ 100000) (hw : wipeE ρ vs = ρ0) (hg : lcGo g t a ρ0 xs S1 = .ok ys S2) : eLc it vs g t a ρ S = .ok (.p (.lst ys)) S2 := by
  subst hw
  unfold eLc
  rw [hi, bind_ok, if_pos hl, hg, bind_ok]
theorem lcx_nil {g : MG} : lcGo g t a ρ [] S = .ok [] S := rfl
theorem lcx_yes {g : MG} {S4 : Sto} (hg : g (.p x) ρ S = .ok ρ1 S) (ha : a ρ1 S = .ok d S2) (hf : frz d S2 = .ok y S3) (hr : lcGo g tsYes a ρ xs S3 = .ok ys S4) : lcGo g tsYes a ρ (x :: xs) S = .ok (y :: ys) S4 := by
  unfold lcGo
  rw [hg, nox_ok, bind_ok]
  show ((Res.ok true S).nox.bind _) = _
  rw [nox_ok, bind_ok]
  dsimp only
  rw [ha, nox_ok, bind_ok, hf, bind_ok, hr, bind_ok]

theorem ev_gnm {i : Nat} (h : ρ.set i (some d) = ρ1) : gNm i d ρ S = .ok ρ1 S := by
  rw [gNm_eq, h]
theorem ev_gtp {n : Nat} {r : MGs} {vs : List Vl} (hl : xs.length = n) (hv : xs.map Vl.p = vs) (hr : r vs ρ S = .ok ρ1 S1) : gTp n r (.p (.tup xs)) ρ S = .ok ρ1 S1 := by
  rw [gTp_eq, if_pos hl, hv, hr]
theorem ev_gnl : gNl [] ρ S = .ok ρ S := rfl
theorem ev_gcn {g : MG} {r : MGs} (hg : g d ρ S = .ok ρ1 S1) (hr : r ds ρ1 S1 = .ok ρ2 S2) : gCn g r (d :: ds) ρ S = .ok ρ2 S2 := by
  rw [gCn_eq, hg, nox_ok, bind_ok, hr]

theorem ev_pass : sPass ρ S = .ok (.nx ρ) S := rfl
theorem ev_expr (ha : a ρ S = .ok d S1) : sExpr a ρ S = .ok (.nx ρ) S1 := by
  rw [sExpr_eq, ha, go_ok]
theorem ev_ret (ha : a ρ S = .ok d S1) : sRet a ρ S = .ok (.rt d) S1 := by
  rw [sRet_eq, ha, go_ok]
theorem ev_retN : sRetN ρ S = .ok (.rt (.p .non)) S := rfl
theorem ev_seq {f : Fl} {o : RF} (h1 : s ρ S = .ok f S1) (h2 : (RF.ok f S1).thn s' = o) : sSeq s s' ρ S = o := by
  rw [sSeq_eq, h1, h2]
theorem thn_n {o : RF} (h : s ρ S = o) : (RF.ok (.nx ρ) S).thn s = o := h
theorem thn_r : (RF.ok (.rt d) S).thn s = .ok (.rt d) S := rfl
theorem ev_asg {g : MG} (ha : a ρ S = .ok d S1) (hg : g d ρ S1 = .ok ρ1 S2) : sAsg a g ρ S = .ok (.nx ρ1) S2 := by
  rw [sAsg_eq, ha, go_ok, hg, nox_ok, go_ok]
theorem ev_par {i j : Nat} (hm : m ρ S = .ok [d, e] S1) (h : (ρ.set i (some d)).set j (some e) = ρ1) : sPar i j m ρ S = .ok (.nx ρ1) S1 := by
  rw [sPar_eq, hm, go_ok]
  dsimp only
  rw [h]
theorem ev_par3 {i j l : Nat} (hm : m ρ S = .ok [d, e, v] S1) (h : ((ρ.set i (some d)).set j (some e)).set l (some v) = ρ1) : sPar3 i j l m ρ S = .ok (.nx ρ1) S1 := by
  rw [sPar3_eq, hm, go_ok]
  dsimp only
  rw [h]
theorem ev_parG {n : Nat} {g : MGs} (hm : m ρ S = .ok ds S1) (h1 : ds.length = n) (h2 : n ≤ 100000) (hg : g ds ρ S1 = .ok ρ1 S2) : sParG n m g ρ S = .ok (.nx ρ1) S2 := by
  rw [sParG_eq, hm, go_ok, if_pos ⟨h1, h2⟩, hg, nox_ok, go_ok]
theorem ev_sif {q : Bool} {o : RF} (ht : t ρ S = .ok q S1) (hk : ifK q (s ρ S1) (s' ρ S1) = o) : sIf t s s' ρ S = o := by
  rw [sIf_eq, ht, go_ok]
  exact hk

theorem ev_mkF {n k : Nat} {body : MS} {f : Fl} {o : Res Vl} (hl : ds.length = n) (hρ : ds.map some ++ List.replicate k none = ρ) (h : body ρ S = .ok f S1) (hr : endF S.length (.ok f S1) = o) : mkF n k body ds S = o := by
  rw [mkF_eq n k body ds S hl, hρ, h, hr]
theorem end_self : endF S.length (.ok (.rt (.p x)) S) = .ok (.p x) S := by
  rw [endF_p, take_self]
theorem end_nx : endF S.length (.ok (.nx ρ) S) = .ok (.p .non) S := by
  rw [endF_nx, take_self]
theorem end_app {T : Sto} : endF S.length (.ok (.rt (.p x)) (S ++ T)) = .ok (.p x) S := by
  rw [endF_p, take_app]
theorem end_nxa {T : Sto} : endF S.length (.ok (.nx ρ) (S ++ T)) = .ok (.p .non) S := by
  rw [endF_nx, take_app]

theorem cell0 {c : Cell} {T : Sto} : (S ++ (c :: T))[S.length]? = some c := by simp
theorem cell1 {c0 c : Cell} {T : Sto} : (S ++ (c0 :: c :: T))[S.length + 1]? = some c := by simp
theorem cell2 {c0 c1 c : Cell} {T : Sto} : (S ++ (c0 :: c1 :: c :: T))[S.length + 2]? = some c := by simp
end
end Mir

namespace Pl
end Pl
namespace Mir
open PySem L2 Pl
theorem band_nat (a b : Nat) : Builtin.bitAnd (a : Int) (b : Int) = ((a &&& b : Nat) : Int) := PySem.W.os_band a b
theorem band_not (a b : Nat) : Builtin.bitAnd (a : Int) (Builtin.bitNot (b : Int)) = ((a - (a &&& b) : Nat) : Int) := by
  unfold Builtin.bitAnd
  have h1 : decide ((0 : Int) ≤ (a : Int)) = true := decide_eq_true (by omega)
  have h2 : decide ((0 : Int) ≤ Builtin.bitNot (b : Int)) = false := decide_eq_false (by unfold Builtin.bitNot; omega)
  rw [h1, h2]
  dsimp only
  have h3 : (Builtin.bitNot (Builtin.bitNot (b : Int))).toNat = b := by unfold Builtin.bitNot; omega
  rw [h3, Int.toNat_natCast]
  have : a &&& b ≤ a := Nat.and_le_left
  omega
theorem shr_test (b i : Nat) : Builtin.bitAnd ((b : Int) / 2 ^ (i : Int).toNat) 1 = if b.testBit i then 1 else 0 := by
  rw [PyProof.Rows.bitAnd_m1, Int.toNat_natCast]
  have e : ((b : Int) / 2 ^ i) % 2 = ((b / 2 ^ i % 2 : Nat) : Int) := by simp
  rw [e, Nat.testBit_eq_decide_div_mod_eq]
  rcases Nat.mod_two_eq_zero_or_one (b / 2 ^ i) with h | h <;> simp [h]
end Mir

namespace Mir
open PySem L2 Pl
section
variable {i j : Int} {a b n : Nat} {x y : List Nat} {xs ys : List P} {p q : P}
theorem op_addN : pAdd (.int (a : Int)) (.int (b : Int)) = some (.int ((a + b : Nat) : Int)) := by
  rw [pAdd_int, Int.natCast_add]
theorem op_addN1 : pAdd (.int (a : Int)) (.int 1) = some (.int ((a + 1 : Nat) : Int)) := rfl
theorem op_add1N : pAdd (.int 1) (.int (a : Int)) = some (.int ((1 + a : Nat) : Int)) := by
  rw [pAdd_int, Int.natCast_add]
  rfl
theorem op_add : pAdd (.int i) (.int j) = some (.int (i + j)) := rfl
theorem op_addS (h : x.length + y.length ≤ 100000) : pAdd (.str x) (.str y) = some (.str (x ++ y)) := by
  rw [pAdd_str, if_pos h]
theorem op_addL (h : xs.length + ys.length ≤ 100000) : pAdd (.lst xs) (.lst ys) = some (.lst (xs ++ ys)) := by
  rw [pAdd_lst, if_pos h]
theorem op_addT (h : xs.length + ys.length ≤ 100000) : pAdd (.tup xs) (.tup ys) = some (.tup (xs ++ ys)) := by
  rw [pAdd_tup, if_pos h]
theorem op_addLm {A : Type} {us ws : List A} {f : A → P} (h : us.length + ws.length ≤ 100000) : pAdd (.lst (us.map f)) (.lst (ws.map f)) = some (.lst ((us ++ ws).map f)) := by
  rw [op_addL (by rw [List.length_map, List.length_map]; exact h), List.map_append]
theorem op_addTm {A : Type} {us ws : List A} {f : A → P} (h : us.length + ws.length ≤ 100000) : pAdd (.tup (us.map f)) (.tup (ws.map f)) = some (.tup ((us ++ ws).map f)) := by
  rw [op_addT (by rw [List.length_map, List.length_map]; exact h), List.map_append]
theorem op_pI {g : Int → Int → Int} : pI g (.int i) (.int j) = some (.int (g i j)) := rfl
theorem op_pIB {g : Int → Int → Bool} : pIB g (.int i) (.int j) = some (.bl (g i j)) := rfl
theorem op_band : pI (fun i j => Builtin.bitAnd i j) (.int (a : Int)) (.int (b : Int)) = some (.int ((a &&& b : Nat) : Int)) := by
  rw [pI_int, band_nat]
theorem op_bandnot : pI (fun i j => Builtin.bitAnd i j) (.int (a : Int)) (.int (Builtin.bitNot (b : Int))) = some (.int ((a - (a &&& b) : Nat) : Int)) := by
  rw [pI_int, band_not]
theorem op_inv : pInv (.int i) = some (.int (Builtin.bitNot i)) := rfl
theorem op_shl (h : a ≤ 1000) : pIC bPow (fun i j => i * 2 ^ j.toNat) (.int 1) (.int (a : Int)) = some (.int ((2 ^ a : Nat) : Int)) := by
  have h1 : bPow 1 (a : Int) = true := by
    unfold bPow
    rw [decide_eq_true (show (0 : Int) ≤ (a : Int) by omega), decide_eq_true (show (a : Int) ≤ 1000000 by omega)]
    rfl
  rw [pIC_int, h1, if_pos rfl, Int.toNat_natCast, Int.one_mul]
  congr 2
theorem op_shr : pIC bShr (fun i j => i / 2 ^ j.toNat) (.int (a : Int)) (.int (b : Int)) = some (.int ((a / 2 ^ b : Nat) : Int)) := by
  have h1 : bShr (a : Int) (b : Int) = true := decide_eq_true (by omega)
  rw [pIC_int, h1, if_pos rfl, Int.toNat_natCast]
  simp
theorem op_and1 : pI (fun i j => Builtin.bitAnd i j) (.int ((a / 2 ^ b : Nat) : Int)) (.int 1) = some (.int (((a.testBit b).toNat : Nat) : Int)) := by
  rw [pI_int]
  have := shr_test a b
  rw [Int.toNat_natCast] at this
  have e : ((a / 2 ^ b : Nat) : Int) = (a : Int) / 2 ^ b := by simp
  rw [e, this]
  cases a.testBit b <;> rfl
theorem op_eqB1 {t : Bool} : pEq (.int ((t.toNat : Nat) : Int)) (.int 1) = some (.bl t) := by cases t <;> rfl
theorem op_eqB0 {t : Bool} : pEq (.int ((t.toNat : Nat) : Int)) (.int 0) = some (.bl (!t)) := by cases t <;> rfl
theorem op_eqN : pEq (.int (a : Int)) (.int (b : Int)) = some (.bl (a == b)) := by
  rw [pEq_int]
  congr 2
  rw [Bool.eq_iff_iff, beq_iff_eq, beq_iff_eq]
  omega
theorem op_neN : pNe (.int (a : Int)) (.int (b : Int)) = some (.bl (!(a == b))) := by
  rw [pNe_int]
  congr 3
  rw [Bool.eq_iff_iff, beq_iff_eq, beq_iff_eq]
  omega
theorem op_eqN0 : pEq (.int (a : Int)) (.int 0) = some (.bl (a == 0)) := op_eqN (b := 0)
theorem op_neN0 : pNe (.int (a : Int)) (.int 0) = some (.bl (!(a == 0))) := op_neN (b := 0)
theorem op_eqI : pEq (.int i) (.int j) = some (.bl (i == j)) := rfl
theorem op_neI : pNe (.int i) (.int j) = some (.bl (!(i == j))) := rfl
theorem op_ltN : pIB (fun i j => decide (i < j)) (.int (a : Int)) (.int (b : Int)) = some (.bl (decide (a < b))) := by
  rw [pIB_int]
  congr 2
  rw [Bool.eq_iff_iff, decide_eq_true_eq, decide_eq_true_eq]
  omega
theorem op_leN : pIB (fun i j => decide (i ≤ j)) (.int (a : Int)) (.int (b : Int)) = some (.bl (decide (a ≤ b))) := by
  rw [pIB_int]
  congr 2
  rw [Bool.eq_iff_iff, decide_eq_true_eq, decide_eq_true_eq]
  omega
theorem op_gtN : pIB (fun i j => decide (j < i)) (.int (a : Int)) (.int (b : Int)) = some (.bl (decide (b < a))) := by
  rw [pIB_int]
  congr 2
  rw [Bool.eq_iff_iff, decide_eq_true_eq, decide_eq_true_eq]
  omega
theorem op_geN : pIB (fun i j => decide (j ≤ i)) (.int (a : Int)) (.int (b : Int)) = some (.bl (decide (b ≤ a))) := by
  rw [pIB_int]
  congr 2
  rw [Bool.eq_iff_iff, decide_eq_true_eq, decide_eq_true_eq]
  omega
theorem op_eqD (h : p.dat 60 = true) (h2 : q.dat 60 = true) : pEq p q = some (.bl (p.eqv q)) := by
  unfold pEq
  rw [h, h2]
  rfl
theorem op_neD (h : p.dat 60 = true) (h2 : q.dat 60 = true) : pNe p q = some (.bl (!p.eqv q)) := by
  unfold pNe
  rw [h, h2]
  rfl
def asc (x : List Nat) : Bool := x.all fun c => decide (c < 128)
theorem op_eqS (h : asc x = true) (h2 : asc y = true) : pEq (.str x) (.str y) = some (.bl (x == y)) := op_eqD (p := .str x) (q := .str y) h h2
theorem op_neS (h : asc x = true) (h2 : asc y = true) : pNe (.str x) (.str y) = some (.bl (!(x == y))) := op_neD (p := .str x) (q := .str y) h h2
theorem eqvL_txt : ∀ {l m : List (List Nat)}, eqvL (l.map P.str) (m.map P.str) = (l == m)
  | [], [] => rfl
  | [], _ :: _ => rfl
  | _ :: _, [] => rfl
  | a :: l, b :: m => by
    show (a == b && eqvL (l.map P.str) (m.map P.str)) = _
    rw [eqvL_txt]
    rfl
theorem eqvL_num : ∀ {l m : List Nat}, eqvL (l.map fun (e : Nat) => P.int (e : Int)) (m.map fun (e : Nat) => P.int (e : Int)) = (l == m)
  | [], [] => rfl
  | [], _ :: _ => rfl
  | _ :: _, [] => rfl
  | a :: l, b :: m => by
    show ((a : Int) == (b : Int) && eqvL (l.map fun (e : Nat) => P.int (e : Int)) (m.map fun (e : Nat) => P.int (e : Int))) = _
    rw [eqvL_num, List.cons_beq_cons]
    congr 1
    rw [Bool.eq_iff_iff, beq_iff_eq, beq_iff_eq]
    omega
theorem datL_of {A : Type} {f : A → P} {m : Nat} : ∀ {l : List A}, (∀ x ∈ l, (f x).dat m = true) → datL (l.map f) m = true
  | [], _ => rfl
  | a :: l, h => by
    show ((f a).dat m && datL (l.map f) m) = true
    rw [h a List.mem_cons_self, datL_of fun x hx => h x (List.mem_cons_of_mem _ hx)]
    rfl
theorem op_eqTS {l m : List (List Nat)} (h : ∀ x ∈ l, asc x = true) (h2 : ∀ x ∈ m, asc x = true) : pEq (.tup (l.map P.str)) (.tup (m.map P.str)) = some (.bl (l == m)) := by
  rw [op_eqD (p := .tup (l.map P.str)) (q := .tup (m.map P.str)) (datL_of h) (datL_of h2)]
  show some (P.bl (eqvL _ _)) = _
  rw [eqvL_txt]
theorem op_neTS {l m : List (List Nat)} (h : ∀ x ∈ l, asc x = true) (h2 : ∀ x ∈ m, asc x = true) : pNe (.tup (l.map P.str)) (.tup (m.map P.str)) = some (.bl (!(l == m))) := by
  rw [op_neD (p := .tup (l.map P.str)) (q := .tup (m.map P.str)) (datL_of h) (datL_of h2)]
  show some (P.bl (!eqvL _ _)) = _
  rw [eqvL_txt]
theorem eqvL_nil {l : List P} : eqvL l [] = l.isEmpty := by cases l <;> rfl
theorem op_neL0 {A : Type} {l : List A} {f : A → P} (h : ∀ x ∈ l, (f x).dat 59 = true) : pNe (.lst (l.map f)) (.lst []) = some (.bl (!l.isEmpty)) := by
  rw [op_neD (p := .lst (l.map f)) (q := .lst []) (datL_of h) rfl]
  show some (P.bl (!eqvL _ [])) = _
  rw [eqvL_nil]
  cases l <;> rfl
theorem op_eqL0 {A : Type} {l : List A} {f : A → P} (h : ∀ x ∈ l, (f x).dat 59 = true) : pEq (.lst (l.map f)) (.lst []) = some (.bl l.isEmpty) := by
  rw [op_eqD (p := .lst (l.map f)) (q := .lst []) (datL_of h) rfl]
  show some (P.bl (eqvL _ [])) = _
  rw [eqvL_nil]
  cases l <;> rfl
theorem op_neT0 {A : Type} {l : List A} {f : A → P} (h : ∀ x ∈ l, (f x).dat 59 = true) : pNe (.tup (l.map f)) (.tup []) = some (.bl (!l.isEmpty)) := by
  rw [op_neD (p := .tup (l.map f)) (q := .tup []) (datL_of h) rfl]
  show some (P.bl (!eqvL _ [])) = _
  rw [eqvL_nil]
  cases l <;> rfl
theorem op_eqT0 {A : Type} {l : List A} {f : A → P} (h : ∀ x ∈ l, (f x).dat 59 = true) : pEq (.tup (l.map f)) (.tup []) = some (.bl l.isEmpty) := by
  rw [op_eqD (p := .tup (l.map f)) (q := .tup []) (datL_of h) rfl]
  show some (P.bl (eqvL _ [])) = _
  rw [eqvL_nil]
  cases l <;> rfl

theorem flat_map {A : Type} {l : List A} {f : A → P} (h : ∀ x, flatP (f x) = true) : (l.map f).all flatP = true := by
  rw [List.all_map, List.all_eq_true]
  exact fun x _ => h x
theorem inP_strs {A : Type} {l : List A} {f : A → List Nat} : inP (.str x) (l.map fun z => P.str (f z)) = (l.map f).contains x := by
  induction l with
  | nil => rfl
  | cons z l ih =>
    show ((f z == x) || inP (.str x) (l.map fun z => P.str (f z))) = _
    rw [ih, List.map_cons, List.contains_cons]
    congr 1
    rw [Bool.eq_iff_iff, beq_iff_eq, beq_iff_eq]
    exact eq_comm
theorem inP_ns {A : Type} {l : List A} {f : A → Nat} : inP (.int (a : Int)) (l.map fun z => P.int ((f z : Nat) : Int)) = (l.map f).contains a := by
  induction l with
  | nil => rfl
  | cons z l ih =>
    show (((f z : Nat) : Int) == (a : Int) || inP (.int (a : Int)) (l.map fun z => P.int ((f z : Nat) : Int))) = _
    rw [ih, List.map_cons, List.contains_cons]
    congr 1
    rw [Bool.eq_iff_iff, beq_iff_eq, beq_iff_eq]
    omega
theorem pIn2_of {p q : P} {t : Bool} (h : pIn p q = some (.bl t)) : pIn2 p q = some (.bl t) := by
  unfold pIn2
  rw [h]
theorem pNotIn2_of {p q : P} {t : Bool} (h : pIn p q = some (.bl t)) : pNotIn2 p q = some (.bl (!t)) := by
  unfold pNotIn2 pNotIn
  rw [h]
theorem pin_l {p : P} {xs : List P} (h : flatP p = true) (h2 : xs.all flatP = true) : pIn p (.lst xs) = some (.bl (inP p xs)) := by
  unfold pIn
  dsimp only
  rw [h, h2]
  rfl
theorem pin_t {p : P} {xs : List P} (h : flatP p = true) (h2 : xs.all flatP = true) : pIn p (.tup xs) = some (.bl (inP p xs)) := by
  unfold pIn
  dsimp only
  rw [h, h2]
  rfl
section
variable {A : Type} {l : List A} {f : A → List Nat} {g : A → Nat}
theorem op_inSL : pIn2 (.str x) (.lst (l.map fun z => P.str (f z))) = some (.bl ((l.map f).contains x)) := pIn2_of ((pin_l rfl (flat_map fun _ => rfl)).trans (by rw [inP_strs]))
theorem op_inST : pIn2 (.str x) (.tup (l.map fun z => P.str (f z))) = some (.bl ((l.map f).contains x)) := pIn2_of ((pin_t rfl (flat_map fun _ => rfl)).trans (by rw [inP_strs]))
theorem op_inNL : pIn2 (.int (a : Int)) (.lst (l.map fun z => P.int ((g z : Nat) : Int))) = some (.bl ((l.map g).contains a)) := pIn2_of ((pin_l rfl (flat_map fun _ => rfl)).trans (by rw [inP_ns]))
theorem op_niSL : pNotIn2 (.str x) (.lst (l.map fun z => P.str (f z))) = some (.bl (!(l.map f).contains x)) := pNotIn2_of ((pin_l rfl (flat_map fun _ => rfl)).trans (by rw [inP_strs]))
theorem op_niST : pNotIn2 (.str x) (.tup (l.map fun z => P.str (f z))) = some (.bl (!(l.map f).contains x)) := pNotIn2_of ((pin_t rfl (flat_map fun _ => rfl)).trans (by rw [inP_strs]))
theorem op_niNL : pNotIn2 (.int (a : Int)) (.lst (l.map fun z => P.int ((g z : Nat) : Int))) = some (.bl (!(l.map g).contains a)) := pNotIn2_of ((pin_l rfl (flat_map fun _ => rfl)).trans (by rw [inP_ns]))
end
theorem op_inSL' {l : List (List Nat)} : pIn2 (.str x) (.lst (l.map P.str)) = some (.bl (l.contains x)) := by
  have := op_inSL (x := x) (l := l) (f := id)
  rw [List.map_id] at this
  exact this
theorem op_inST' {l : List (List Nat)} : pIn2 (.str x) (.tup (l.map P.str)) = some (.bl (l.contains x)) := by
  have := op_inST (x := x) (l := l) (f := id)
  rw [List.map_id] at this
  exact this
theorem op_inNL' {l : List Nat} : pIn2 (.int (a : Int)) (.lst (l.map fun (z : Nat) => P.int (z : Int))) = some (.bl (l.contains a)) := by
  have := op_inNL (a := a) (l := l) (g := id)
  rw [List.map_id] at this
  exact this
theorem op_niSL' {l : List (List Nat)} : pNotIn2 (.str x) (.lst (l.map P.str)) = some (.bl (!l.contains x)) := by
  have := op_niSL (x := x) (l := l) (f := id)
  rw [List.map_id] at this
  exact this
theorem op_niST' {l : List (List Nat)} : pNotIn2 (.str x) (.tup (l.map P.str)) = some (.bl (!l.contains x)) := by
  have := op_niST (x := x) (l := l) (f := id)
  rw [List.map_id] at this
  exact this
theorem op_niNL' {l : List Nat} : pNotIn2 (.int (a : Int)) (.lst (l.map fun (z : Nat) => P.int (z : Int))) = some (.bl (!l.contains a)) := by
  have := op_niNL (a := a) (l := l) (g := id)
  rw [List.map_id] at this
  exact this

theorem op_lenL : pLen [.lst xs] = some (.int ((xs.length : Nat) : Int)) := rfl
theorem op_lenT : pLen [.tup xs] = some (.int ((xs.length : Nat) : Int)) := rfl
theorem op_lenLm {A : Type} {l : List A} {f : A → P} : pLen [.lst (l.map f)] = some (.int ((l.length : Nat) : Int)) := by
  rw [op_lenL, List.length_map]
theorem op_lenTm {A : Type} {l : List A} {f : A → P} : pLen [.tup (l.map f)] = some (.int ((l.length : Nat) : Int)) := by
  rw [op_lenT, List.length_map]
theorem op_lenS (h : x.length ≤ 100000) : pLen [.str x] = some (.int ((x.length : Nat) : Int)) := by
  rw [pLen_str, if_pos h]
theorem op_tupL : pTuple [.lst xs] = some (.tup xs) := rfl
theorem op_tupT : pTuple [.tup xs] = some (.tup xs) := rfl
theorem op_lstL : pList [.lst xs] = some (.lst xs) := rfl
theorem op_lstT : pList [.tup xs] = some (.lst xs) := rfl
theorem intsOf_m {A : Type} {l : List A} {f : A → Int} : intsOf (l.map fun z => P.int (f z)) = some (l.map f) := by
  induction l with
  | nil => rfl
  | cons a l ih =>
    show (intsOf (l.map fun z => P.int (f z))).map (f a :: ·) = _
    rw [ih]
    rfl
theorem blsOf_m {A : Type} {l : List A} {f : A → Bool} : blsOf (l.map fun z => P.bl (f z)) = some (l.map f) := by
  induction l with
  | nil => rfl
  | cons a l ih =>
    show (blsOf (l.map fun z => P.bl (f z))).map (f a :: ·) = _
    rw [ih]
    rfl
theorem sum_natm {A : Type} (l : List A) (f : A → Nat) : (l.map fun z => ((f z : Nat) : Int)).sum = (((l.map f).sum : Nat) : Int) := by
  induction l with
  | nil => rfl
  | cons a l ih =>
    rw [List.map_cons, List.sum_cons, ih, List.map_cons, List.sum_cons]
    omega
theorem op_sum {A : Type} {l : List A} {f : A → Nat} : pSum [.lst (l.map fun z => P.int ((f z : Nat) : Int))] = some (.int (((l.map f).sum : Nat) : Int)) := by
  show (intsOf (l.map fun z => P.int ((f z : Nat) : Int))).map _ = _
  rw [intsOf_m (f := fun z => ((f z : Nat) : Int))]
  show some (P.int _) = _
  rw [sum_natm]
theorem op_all {A : Type} {l : List A} {f : A → Bool} : pAll [.lst (l.map fun z => P.bl (f z))] = some (.bl (l.all f)) := by
  show (blsOf (l.map fun z => P.bl (f z))).map _ = _
  rw [blsOf_m]
  show some (P.bl ((l.map f).all id)) = _
  rw [List.all_map]
  rfl
theorem op_any {A : Type} {l : List A} {f : A → Bool} : pAny [.lst (l.map fun z => P.bl (f z))] = some (.bl (l.any f)) := by
  show (blsOf (l.map fun z => P.bl (f z))).map _ = _
  rw [blsOf_m]
  show some (P.bl ((l.map f).any id)) = _
  rw [List.any_map]
  rfl

theorem at_m0 {A : Type} {l : List A} {f : A → P} [Inhabited A] (h : a < l.length) : atI (l.map f) (a : Int) = some (f (l.getD a default)) := by
  refine atN ?_
  rw [List.getElem?_map, List.getElem?_eq_getElem h]
  simp [h]
theorem at_ms {A : Type} {l : List (List A)} {f : List A → P} (h : a < l.length) : atI (l.map f) (a : Int) = some (f (l.getD a [])) := at_m0 h
theorem at_mn {l : List Nat} {f : Nat → P} (h : a < l.length) : atI (l.map f) (a : Int) = some (f (l.getD a 0)) := at_m0 h
theorem ix_ls {A : Type} {l : List (List A)} {f : List A → P} (h : a < l.length) : pIx (.lst (l.map f)) (.int (a : Int)) = some (f (l.getD a [])) := at_ms h
theorem ix_ln {l : List Nat} {f : Nat → P} (h : a < l.length) : pIx (.lst (l.map f)) (.int (a : Int)) = some (f (l.getD a 0)) := at_mn h
theorem ix_lm {A : Type} {l : List A} {f : A → P} [Inhabited A] (h : a < l.length) : pIx (.lst (l.map f)) (.int (a : Int)) = some (f (l.getD a default)) := at_m0 h
theorem ix_ts {A : Type} {l : List (List A)} {f : List A → P} (h : a < l.length) : pIx (.tup (l.map f)) (.int (a : Int)) = some (f (l.getD a [])) := at_ms h
theorem ix_l0 : pIx (.lst (p :: xs)) (.int 0) = some p := atI_0 _ _
theorem ix_l1 {p2 : P} : pIx (.lst (p :: p2 :: xs)) (.int 1) = some p2 := atI_1 _ _ _
theorem ix_l2 {p2 p3 : P} : pIx (.lst (p :: p2 :: p3 :: xs)) (.int 2) = some p3 := atI_2 _ _ _ _
theorem atI_3 {A : Type} (x y z w : A) (xs : List A) : atI (x :: y :: z :: w :: xs) 3 = some w := atN (i := 3) rfl
theorem ix_l3 {p2 p3 p4 : P} : pIx (.lst (p :: p2 :: p3 :: p4 :: xs)) (.int 3) = some p4 := atI_3 _ _ _ _ _
theorem ix_t0 : pIx (.tup (p :: xs)) (.int 0) = some p := atI_0 _ _
theorem ix_t1 {p2 : P} : pIx (.tup (p :: p2 :: xs)) (.int 1) = some p2 := atI_1 _ _ _
theorem ix_t2 {p2 p3 : P} : pIx (.tup (p :: p2 :: p3 :: xs)) (.int 2) = some p3 := atI_2 _ _ _ _
theorem ix_t3 {p2 p3 p4 : P} : pIx (.tup (p :: p2 :: p3 :: p4 :: xs)) (.int 3) = some p4 := atI_3 _ _ _ _ _
theorem fr_p {S : Sto} : frz (.p p) S = .ok p S := frz_p _ _
end
mutual
theorem P.eqv_self : ∀ (x : P) (m : Nat), x.dat m = true → x.eqv x = true
  | .non, _, _ => rfl
  | .bl b, _, _ => by show (b == b) = true; simp
  | .int i, _, _ => by show (i == i) = true; simp
  | .str x, _, _ => by show (x == x) = true; simp
  | .lst xs, 0, h => by cases h
  | .lst xs, m + 1, h => eqvL_self xs m h
  | .tup xs, 0, h => by cases h
  | .tup xs, m + 1, h => eqvL_self xs m h
  | .dct _ _, _, h => by cases h
  | .obj _ _ _, _, h => by cases h
  | .ty _, _, h => by cases h
  | .glo _, _, h => by cases h
  | .raw _, _, h => by cases h
  | .err _ _ _, _, h => by cases h
  | .rwp _ _, _, h => by cases h
  | .scr _, _, h => by cases h
theorem eqvL_self : ∀ (xs : List P) (m : Nat), datL xs m = true → eqvL xs xs = true
  | [], _, _ => rfl
  | x :: xs, m, h => by
    have h : (x.dat m && datL xs m) = true := h
    rw [Bool.and_eq_true] at h
    show (x.eqv x && eqvL xs xs) = true
    rw [P.eqv_self x m h.1, eqvL_self xs m h.2]
    rfl
end
theorem op_eqX {x : P} (h : x.dat 60 = true) : pEq x x = some (.bl true) := by
  rw [op_eqD h h, P.eqv_self x 60 h]
theorem op_neX {x : P} (h : x.dat 60 = true) : pNe x x = some (.bl false) := by
  rw [op_neD h h, P.eqv_self x 60 h]
  rfl
end Mir

namespace Mir
open PySem L2
def WS (r : RF) (Q : Fl → Sto → Prop) : Prop := ∃ f S, r = .ok f S ∧ Q f S
section
variable {ρ ρ1 ρ2 : En} {S S1 S2 S3 : Sto} {a b c : ME} {t u : MT} {m r : MA} {s s' : MS} {x y z w : P} {d e v : Vl} {ds es : List Vl} {xs ys : List P} {Q : Fl → Sto → Prop}
theorem ws_of {f : Fl} (h : s ρ S = .ok f S1) (q : Q f S1) : WS (s ρ S) Q := ⟨f, S1, h, q⟩
theorem ws_seq (h : s ρ S = .ok (.nx ρ1) S1) (q : WS (s' ρ1 S1) Q) : WS (sSeq s s' ρ S) Q := by
  obtain ⟨f, S2, e, q⟩ := q
  exact ⟨f, S2, ev_seq h (thn_n e), q⟩
theorem ws_seqW (h : WS (s ρ S) fun f S1 => ∃ ρ1, f = .nx ρ1 ∧ WS (s' ρ1 S1) Q) : WS (sSeq s s' ρ S) Q := by
  obtain ⟨f, S1, e1, ρ1, rfl, f, S2, e, q⟩ := h
  exact ⟨f, S2, ev_seq e1 (thn_n e), q⟩
theorem ws_for {it : MI} {g : MG} (I : Nat → En → Sto → Prop) (hi : it ρ S = .ok xs S1) (h0 : I 0 ρ S1)
    (hs : ∀ i x ρ S, xs[i]? = some x → I i ρ S → ∃ ρ1 S1, g (.p x) ρ S = .ok ρ1 S1 ∧ WS (s ρ1 S1) fun f S2 => ∃ ρ2, (f = .nx ρ2 ∨ f = .ct ρ2) ∧ I (i + 1) ρ2 S2)
    (hq : ∀ ρ' S', I xs.length ρ' S' → Q (.nx ρ') S') : WS (sFor it g s ρ S) Q := by
  have key : ∀ (zs : List P) (k : Nat) (ρ : En) (S : Sto), xs.drop k = zs → I k ρ S → ∃ ρ' S', forGo g s zs ρ S = .ok (.nx ρ') S' ∧ I (k + zs.length) ρ' S' := by
    intro zs
    induction zs with
    | nil => exact fun k ρ S _ h => ⟨ρ, S, rfl, h⟩
    | cons z zs ih =>
      intro k ρ S hd h
      have hz : xs[k]? = some z := by
        have := congrArg (fun l : List P => l[0]?) hd
        simpa using this
      have hd2 : xs.drop (k + 1) = zs := by
        rw [← List.drop_drop, hd]
        rfl
      obtain ⟨ρ1, S1, e1, f, S2, e2, ρ2, e3, h2⟩ := hs k z ρ S hz h
      obtain ⟨ρ', S', e4, h4⟩ := ih (k + 1) ρ2 S2 hd2 h2
      refine ⟨ρ', S', ?_, by rw [List.length_cons, show k + (zs.length + 1) = k + 1 + zs.length by omega]; exact h4⟩
      rw [forGo_cons, e1, nox_ok, go_ok, e2]
      rcases e3 with rfl | rfl <;> exact e4
  obtain ⟨ρ', S', e, h⟩ := key xs 0 ρ S1 rfl h0
  rw [Nat.zero_add] at h
  exact ⟨.nx ρ', S', by rw [sFor_eq, hi, go_ok, e], hq ρ' S' h⟩
theorem ws_forM {A : Type} {it : MI} {g : MG} {us : List A} {en : A → P} (I : Nat → En → Sto → Prop) (hi : it ρ S = .ok (us.map en) S1) (h0 : I 0 ρ S1)
    (hs : ∀ i u ρ S, us[i]? = some u → I i ρ S → ∃ ρ1 S1, g (.p (en u)) ρ S = .ok ρ1 S1 ∧ WS (s ρ1 S1) fun f S2 => ∃ ρ2, (f = .nx ρ2 ∨ f = .ct ρ2) ∧ I (i + 1) ρ2 S2)
    (hq : ∀ ρ' S', I us.length ρ' S' → Q (.nx ρ') S') : WS (sFor it g s ρ S) Q := by
  refine ws_for I hi h0 (fun i x ρ S hx hI => ?_) fun ρ' S' h => hq ρ' S' (by rw [List.length_map] at h; exact h)
  rw [List.getElem?_map] at hx
  cases hu : us[i]? with
  | none => rw [hu] at hx; cases hx
  | some u =>
    rw [hu] at hx
    cases hx
    exact hs i u ρ S hu hI
end
end Mir

namespace Mir
open PySem L2
section
variable {ρ ρ0 ρ1 ρ2 : En} {S S1 S2 S3 : Sto} {a b c : ME} {t u : MT} {m r : MA} {s s' : MS} {x y z w : P} {d e v : Vl} {ds es : List Vl} {xs ys : List P}
theorem rng_1 : itRange1 (eC (.int 1)) ρ S = .ok [.int 0] S := rfl
theorem rng_2 : itRange1 (eC (.int 2)) ρ S = .ok [.int 0, .int 1] S := rfl
theorem rng_3 : itRange1 (eC (.int 3)) ρ S = .ok [.int 0, .int 1, .int 2] S := rfl
theorem rng_4 : itRange1 (eC (.int 4)) ρ S = .ok [.int 0, .int 1, .int 2, .int 3] S := rfl
theorem rng_5 : itRange1 (eC (.int 5)) ρ S = .ok [.int 0, .int 1, .int 2, .int 3, .int 4] S := rfl
theorem rng_6 : itRange1 (eC (.int 6)) ρ S = .ok [.int 0, .int 1, .int 2, .int 3, .int 4, .int 5] S := rfl
theorem rng_8 : itRange1 (eC (.int 8)) ρ S = .ok [.int 0, .int 1, .int 2, .int 3, .int 4, .int 5, .int 6, .int 7] S := rfl
theorem lcx_s {g : MG} {q : Bool} (hg : g (.p x) ρ S = .ok ρ1 S) (ht : t ρ1 S = .ok q S) (ha : q = true → a ρ1 S = .ok (.p y) S) (hr : lcGo g t a ρ xs S = .ok ys S) : lcGo g t a ρ (x :: xs) S = .ok ((if q then [y] else []) ++ ys) S := by
  cases q with
  | false =>
    unfold lcGo
    rw [hg, nox_ok, bind_ok, ht, nox_ok, bind_ok]
    exact hr
  | true =>
    unfold lcGo
    rw [hg, nox_ok, bind_ok, ht, nox_ok, bind_ok]
    dsimp only
    rw [ha rfl, nox_ok, bind_ok, frz_p, bind_ok, hr, bind_ok]
    rfl

theorem ev_forx {it : MI} {g : MG} {o : RF} (hi : it ρ S = .ok xs S1) (hg : forGo g s xs ρ S1 = o) : sFor it g s ρ S = o := by
  rw [sFor_eq, hi, go_ok, hg]
theorem forx_nil {g : MG} : forGo g s [] ρ S = .ok (.nx ρ) S := rfl
theorem forx_cons {g : MG} {o : RF} (hg : g (.p x) ρ S = .ok ρ1 S1) (hs : s ρ1 S1 = .ok (.nx ρ2) S2) (hr : forGo g s xs ρ2 S2 = o) : forGo g s (x :: xs) ρ S = o := by
  rw [forGo_cons, hg, nox_ok, go_ok, hs]
  exact hr
theorem ev_enumN {ls : List Nat} {f : Nat → P} (ha : a ρ S = .ok (.p (.lst (ls.map f))) S1) : itEnum a ρ S = .ok ((List.range ls.length).map fun (i : Nat) => P.tup [.int (i : Int), f (ls.getD i 0)]) S1 := ev_enum_map ha
theorem ev_enumS {B : Type} {ls : List (List B)} {f : List B → P} (ha : a ρ S = .ok (.p (.lst (ls.map f))) S1) : itEnum a ρ S = .ok ((List.range ls.length).map fun (i : Nat) => P.tup [.int (i : Int), f (ls.getD i [])]) S1 := ev_enum_map ha
theorem isi_t {cs : List PySem.Str} {T : Tg} (h : isT cs T y = some true) : isT cs T y = some true := h
theorem isi_f {cs : List PySem.Str} {T : Tg} (h : isT cs T y = some false) : isT cs T y = some false := h

theorem lcGo2_gen {A B : Type} {g : MG} {it1 : MI} {vs1 : List Nat} {g1 : MG} {t1 : MT} {en : A → P} {q : A → Bool} {ρ1 : A → En} {us : A → List B} {en1 : A → B → P} {ρ1' : A → En} {ρ2 : A → B → En} {q1 : A → B → Bool} {f : A → B → P} : ∀ (ls : List A),
    (∀ y ∈ ls, g (.p (en y)) ρ0 S = .ok (ρ1 y) S) → (∀ y ∈ ls, t (ρ1 y) S = .ok (q y) S) → (∀ y ∈ ls, q y = true → it1 (ρ1 y) S = .ok ((us y).map (en1 y)) S) → (∀ y ∈ ls, q y = true → (us y).length ≤ 4000) → (∀ y ∈ ls, wipeE (ρ1 y) vs1 = ρ1' y) →
    (∀ y ∈ ls, q y = true → ∀ z ∈ us y, g1 (.p (en1 y z)) (ρ1' y) S = .ok (ρ2 y z) S) → (∀ y ∈ ls, q y = true → ∀ z ∈ us y, t1 (ρ2 y z) S = .ok (q1 y z) S) → (∀ y ∈ ls, q y = true → ∀ z ∈ us y, q1 y z = true → a (ρ2 y z) S = .ok (.p (f y z)) S) →
    lcGo2 g t it1 vs1 g1 t1 a ρ0 (ls.map en) S = .ok ((ls.filter q).flatMap fun y => ((us y).filter (q1 y)).map (f y)) S
  | [], _, _, _, _, _, _, _, _ => rfl
  | y :: ls, h1, h2, h3, h4, h5, h6, h7, h8 => by
    have m0 : y ∈ y :: ls := List.mem_cons_self
    have ih := lcGo2_gen ls (fun z hz => h1 z (List.mem_cons_of_mem _ hz)) (fun z hz => h2 z (List.mem_cons_of_mem _ hz)) (fun z hz => h3 z (List.mem_cons_of_mem _ hz)) (fun z hz => h4 z (List.mem_cons_of_mem _ hz)) (fun z hz => h5 z (List.mem_cons_of_mem _ hz)) (fun z hz => h6 z (List.mem_cons_of_mem _ hz)) (fun z hz => h7 z (List.mem_cons_of_mem _ hz)) (fun z hz => h8 z (List.mem_cons_of_mem _ hz))
    rw [List.map_cons]
    unfold lcGo2
    rw [h1 y m0, nox_ok, bind_ok, h2 y m0, nox_ok, bind_ok]
    cases hq : q y with
    | false =>
      dsimp only
      rw [ih, List.filter_cons_of_neg (by rw [hq]; decide)]
    | true =>
      dsimp only
      rw [h3 y m0 hq, nox_ok, bind_ok, if_pos (by rw [List.length_map]; exact h4 y m0 hq), h5 y m0]
      rw [lcGo_gen (en1 y) (q1 y) (f y) (us y) fun z hz => ⟨ρ2 y z, h6 y m0 hq z hz, h7 y m0 hq z hz, h8 y m0 hq z hz⟩, bind_ok, ih, bind_ok, List.filter_cons_of_pos hq, List.flatMap_cons]
theorem ev_lc2 {A B : Type} {it : MI} {vs : List Nat} {g : MG} {it1 : MI} {vs1 : List Nat} {g1 : MG} {ls : List A} {en : A → P} {ρ1 : A → En} {us : A → List B} {en1 : A → B → P} {ρ1' : A → En} {ρ2 : A → B → En} {f : A → B → P} (hi : it ρ S = .ok (ls.map en) S1) (hl : ls.length ≤ 4000) (hw : wipeE ρ vs = ρ0)
    (hg : ∀ y, y ∈ ls → g (.p (en y)) ρ0 S1 = .ok (ρ1 y) S1) (hi1 : ∀ y, y ∈ ls → it1 (ρ1 y) S1 = .ok ((us y).map (en1 y)) S1) (hl1 : ∀ y, y ∈ ls → (us y).length ≤ 4000) (hw1 : ∀ y, y ∈ ls → wipeE (ρ1 y) vs1 = ρ1' y)
    (hg1 : ∀ y, y ∈ ls → ∀ z, z ∈ us y → g1 (.p (en1 y z)) (ρ1' y) S1 = .ok (ρ2 y z) S1) (he : ∀ y, y ∈ ls → ∀ z, z ∈ us y → a (ρ2 y z) S1 = .ok (.p (f y z)) S1) :
    eLc2 it vs g tsYes it1 vs1 g1 tsYes a ρ S = .ok (.p (.lst (ls.flatMap fun y => (us y).map (f y)))) S1 := by
  subst hw
  unfold eLc2
  rw [hi, bind_ok, if_pos (by rw [List.length_map]; exact hl)]
  have := lcGo2_gen (a := a) (t := tsYes) (t1 := tsYes) (q := fun _ => true) (q1 := fun _ _ => true) (it1 := it1) (vs1 := vs1) ls (fun y hy => hg y hy) (fun y hy => rfl) (fun y hy _ => hi1 y hy) (fun y hy _ => hl1 y hy) hw1 (fun y hy _ z hz => hg1 y hy z hz) (fun y hy _ z hz => rfl) (fun y hy _ z hz _ => he y hy z hz)
  rw [this, bind_ok]
  have e1 : ls.filter (fun _ => true) = ls := List.filter_eq_self.mpr fun _ _ => rfl
  have e2 : ∀ y, (us y).filter (fun _ => true) = us y := fun y => List.filter_eq_self.mpr fun _ _ => rfl
  simp only [e1, e2]
end
section
variable {p q : Bool} {x : P} {a : Nat} {xs : List P}
theorem op_eqB : pEq (.bl p) (.bl q) = some (.bl (p == q)) := rfl
theorem op_neB : pNe (.bl p) (.bl q) = some (.bl (!(p == q))) := rfl
theorem op_niB {A : Type} {l : List A} {f : A → Bool} : pNotIn2 (.bl false) (.lst (l.map fun z => P.bl (f z))) = some (.bl (l.all f)) := by
  have h : ∀ l : List A, inP (.bl false) (l.map fun z => P.bl (f z)) = !(l.all f) := by
    intro l
    induction l with
    | nil => rfl
    | cons z l ih =>
      show ((f z == false) || inP (.bl false) (l.map fun z => P.bl (f z))) = _
      rw [ih, List.all_cons]
      cases f z <;> rfl
  rw [pNotIn2_of (t := !(l.all f)) ((pin_l rfl (flat_map fun _ => rfl)).trans (by rw [h])), Bool.not_not]
theorem op_all2 {A B : Type} {l : List A} {us : A → List B} {f : A → B → Bool} : pAll [.lst (l.flatMap fun y => (us y).map fun z => P.bl (f y z))] = some (.bl (l.all fun y => (us y).all (f y))) := by
  have e : (l.flatMap fun y => (us y).map fun z => P.bl (f y z)) = (l.flatMap fun y => (us y).map (f y)).map P.bl := by
    rw [List.map_flatMap]
    simp [List.map_map, Function.comp_def]
  rw [e]
  have := op_all (l := l.flatMap fun y => (us y).map (f y)) (f := fun b => b)
  rw [this]
  congr 2
  rw [List.all_flatMap]
  simp [List.all_map, Function.comp_def]
theorem ix_l4 {p1 p2 p3 p4 p5 : P} : pIx (.lst (p1 :: p2 :: p3 :: p4 :: p5 :: xs)) (.int 4) = some p5 := atN (i := 4) rfl
theorem ix_l5 {p1 p2 p3 p4 p5 p6 : P} : pIx (.lst (p1 :: p2 :: p3 :: p4 :: p5 :: p6 :: xs)) (.int 5) = some p6 := atN (i := 5) rfl
theorem eqc_t {x y : P} (h : pEq x y = some (.bl true)) : pEq x y = some (.bl true) := h
theorem eqc_f {x y : P} (h : pEq x y = some (.bl false)) : pEq x y = some (.bl false) := h
theorem nec_t {x y : P} (h : pNe x y = some (.bl true)) : pNe x y = some (.bl true) := h
theorem nec_f {x y : P} (h : pNe x y = some (.bl false)) : pNe x y = some (.bl false) := h
theorem inc_t {x y : P} (h : pIn2 x y = some (.bl true)) : pIn2 x y = some (.bl true) := h
theorem inc_f {x y : P} (h : pIn2 x y = some (.bl false)) : pIn2 x y = some (.bl false) := h
theorem nic_t {x y : P} (h : pNotIn2 x y = some (.bl true)) : pNotIn2 x y = some (.bl true) := h
theorem nic_f {x y : P} (h : pNotIn2 x y = some (.bl false)) : pNotIn2 x y = some (.bl false) := h
theorem op_is {a b : Bool} : pIs (.bl a) (.bl b) = some (.bl (decide (a = b))) := rfl
theorem op_isNot {a b : Bool} : pIsNot (.bl a) (.bl b) = some (.bl (!decide (a = b))) := rfl
theorem ev_rgL {ρ : En} {S S1 : Sto} {m : ME} {n : Nat} (h : m ρ S = .ok (.p (.int (n : Int))) S1) (hn : n ≤ 100000) : eRgL m ρ S = .ok (.p (.lst ((List.range n).map fun (k : Nat) => P.int (k : Int)))) S1 := by
  unfold eRgL
  rw [h, bind_ok]
  dsimp only
  rw [if_pos ⟨by omega, by omega⟩, Int.toNat_natCast, rangeP_0]
end
end Mir

namespace Mir
open PySem L2
section
variable {a b : Nat} {x p : P} {xs : List P} {i : Int}
theorem op_sub1 (h : 1 ≤ a) : pI (fun i j => i - j) (.int (a : Int)) (.int 1) = some (.int ((a - 1 : Nat) : Int)) := by
  rw [pI_int]
  congr 2
  omega
theorem op_subN (h : b ≤ a) : pI (fun i j => i - j) (.int (a : Int)) (.int (b : Int)) = some (.int ((a - b : Nat) : Int)) := by
  rw [pI_int]
  congr 2
  omega
theorem op_modN (h : 0 < b) : pIC bMod (fun i j => i % j) (.int (a : Int)) (.int (b : Int)) = some (.int ((a % b : Nat) : Int)) := by
  have : bMod (a : Int) (b : Int) = true := bMod_of (by omega)
  rw [pIC_int, this, if_pos rfl, Int.natCast_emod]
theorem op_int : pInt [.int i] = some (.int i) := rfl
theorem op_neg1 : pNeg (.int 1) = some (.int (-1)) := rfl
theorem op_neg : pNeg (.int i) = some (.int (-i)) := rfl
theorem op_mul2 : pMul (.lst [x]) (.int 2) = some (.lst [x, x]) := rfl
theorem op_eqL1 {l : List Nat} : pEq (.lst (l.map fun (e : Nat) => P.int (e : Int))) (.lst [.int (a : Int)]) = some (.bl (l == [a])) := by
  rw [op_eqD (p := .lst (l.map fun (e : Nat) => P.int (e : Int))) (q := .lst [.int (a : Int)]) (datL_of fun _ _ => rfl) rfl]
  show some (P.bl (eqvL (l.map fun (e : Nat) => P.int (e : Int)) ([a].map fun (e : Nat) => P.int (e : Int)))) = _
  rw [eqvL_num]
theorem cutP_init {A : Type} (l : List A) : cutP l none (some (-1)) = l.dropLast := by
  unfold cutP
  have e0 : HT.sIx l.length 0 none = 0 := rfl
  have e1 : HT.sIx l.length l.length (some (-1)) = l.length - 1 := by
    unfold HT.sIx
    simp
    omega
  rw [e0, e1, List.drop_zero, Nat.sub_zero, List.dropLast_eq_take]
theorem op_init {A : Type} {l : List A} {f : A → P} : pSl none (some (-1)) (.lst (l.map f)) = some (.lst ((l.dropLast).map f)) := by
  show some (P.lst (cutP (l.map f) none (some (-1)))) = _
  rw [cutP_init, List.map_dropLast]
end
end Mir

namespace Mir
open PySem L2
mutual
def P.sz : P → Nat
  | .non => 4
  | .bl _ => 5
  | .int i => (Str.ofString (toString i)).length
  | .str x => 10 * x.length + 2
  | .lst xs => szL xs + 4
  | .tup xs => szL xs + 4
  | _ => 4
def szL : List P → Nat
  | [] => 0
  | x :: xs => x.sz + 2 + szL xs
end
theorem join_len (s : Str) : ∀ ts : List Str, (s.join ts).length ≤ (ts.map fun t => t.length + s.length).sum
  | [] => by
    rw [Str.join.eq_1]
    exact Nat.zero_le _
  | [t] => by
    rw [Str.join.eq_2]
    simp
  | t :: u :: r => by
    have ih := join_len s (u :: r)
    rw [Str.join.eq_3]
    · rw [List.map_cons, List.sum_cons]
      simp only [Str.length_append]
      omega
    all_goals simp
theorem listText_le (ts : List Str) : (listText ts).length ≤ (ts.map fun t => t.length + 2).sum + 4 := by
  have h := join_len (Str.ofString ", ") ts
  have e : (Str.ofString ", ").length = 2 := by decide
  have e1 : (Str.ofString "[").length = 1 := by decide
  have e2 : (Str.ofString "]").length = 1 := by decide
  rw [listText_eq_join]
  simp only [Str.length_append, e, e1, e2] at h ⊢
  omega
theorem tupleText_le (ts : List Str) : (tupleText ts).length ≤ (ts.map fun t => t.length + 2).sum + 4 := by
  have h := join_len (Str.ofString ", ") ts
  have e : (Str.ofString ", ").length = 2 := by decide
  have e1 : (Str.ofString "(").length = 1 := by decide
  have e2 : (Str.ofString (if (ts.length == 1) = true then ",)" else ")")).length ≤ 2 := by
    split <;> decide
  unfold tupleText
  simp only [Str.length_append, e, e1] at h ⊢
  omega
mutual
theorem shown_len : ∀ (x : P) (m : Nat), x.dat m = true → x.toD.shown.length ≤ x.sz
  | .non, m, _ => by show (Str.ofString "None").length ≤ 4; decide
  | .bl b, m, _ => by
    show (if b = true then Str.ofString "True" else Str.ofString "False").length ≤ 5
    cases b <;> decide
  | .int i, m, _ => by
    show (PyData.int i).shown.length ≤ _
    rw [PyData.shown.eq_3]
    exact Nat.le_refl _
  | .str x, m, h => by
    have h : (x.all fun c => decide (c < 128)) = true := h
    show (PyData.str (strOf x)).shown.length ≤ 10 * x.length + 2
    rw [PyData.shown.eq_4]
    have := StrLaws.reprText_len (strOf x) fun c hc => by
      have hc : c ∈ x := by simpa [strOf] using hc
      have := of_decide_eq_true (List.all_eq_true.mp h c hc)
      exact Nat.lt_of_lt_of_le this (by decide)
    have e : (strOf x).length = x.length := by simp [strOf, Str.length]
    rw [e] at this
    exact this
  | .lst xs, 0, h => by cases h
  | .lst xs, m + 1, h => by
    show (PyData.list (toDL xs)).shown.length ≤ szL xs + 4
    rw [PyData.shown.eq_5]
    have := listText_le (PyData.shownAll (toDL xs))
    have := shownL_len xs m h
    omega
  | .tup xs, 0, h => by cases h
  | .tup xs, m + 1, h => by
    show (PyData.tuple (toDL xs)).shown.length ≤ szL xs + 4
    rw [PyData.shown.eq_6]
    have := tupleText_le (PyData.shownAll (toDL xs))
    have := shownL_len xs m h
    omega
  | .dct _ _, m, h => by cases h
  | .obj _ _ _, m, h => by cases h
  | .ty _, m, h => by cases h
  | .glo _, m, h => by cases h
  | .raw _, m, h => by cases h
  | .err _ _ _, m, h => by cases h
  | .rwp _ _, m, h => by cases h
  | .scr _, m, h => by cases h
theorem shownL_len : ∀ (xs : List P) (m : Nat), datL xs m = true → ((PyData.shownAll (toDL xs)).map fun t => t.length + 2).sum ≤ szL xs
  | [], m, _ => by
    show ((PyData.shownAll []).map fun t => t.length + 2).sum ≤ 0
    rw [PyData.shownAll.eq_1]
    exact Nat.le_refl _
  | x :: xs, m, h => by
    have h : (x.dat m && datL xs m) = true := h
    rw [Bool.and_eq_true] at h
    have h1 := shown_len x m h.1
    have h2 := shownL_len xs m h.2
    show ((PyData.shownAll (x.toD :: toDL xs)).map fun t => t.length + 2).sum ≤ x.sz + 2 + szL xs
    rw [PyData.shownAll.eq_2, List.map_cons, List.sum_cons]
    omega
end
theorem reprP_len {x : P} (h : x.dat 60 = true) : (reprP x).length ≤ x.sz := by
  have := shown_len x 60 h
  have e : (reprP x).length = x.toD.shown.length := by
    unfold reprP
    rw [Array.length_toList]
    rfl
  rw [e]
  exact this
theorem op_reprL {xs : List P} (h : (P.lst xs).dat 60 = true) (h2 : (P.lst xs).toD.showable = true) (h3 : (P.lst xs).sz ≤ 100000) : pRepr [.lst xs] = some (.str (reprP (.lst xs))) := by
  unfold pRepr
  dsimp only
  rw [h, h2]
  have := reprP_len h
  rw [if_pos (by rw [decide_eq_true (Nat.le_trans this h3)]; rfl)]
def Sm (s : Str) : Prop := ∀ c ∈ s.cps.toList, c < 128
theorem Sm.app {s t : Str} (h : Sm s) (h' : Sm t) : Sm (s ++ t) := fun c hc => by
  have e : (s ++ t).cps = s.cps ++ t.cps := rfl
  rw [e, Array.toList_append, List.mem_append] at hc
  exact hc.elim (h c) (h' c)
theorem Sm.join {s : Str} (h : Sm s) : ∀ {ts : List Str}, (∀ t ∈ ts, Sm t) → Sm (s.join ts)
  | [], _ => by
    rw [Str.join.eq_1]
    intro c hc
    cases hc
  | [t], h' => by
    rw [Str.join.eq_2]
    exact h' t List.mem_cons_self
  | t :: u :: r, h' => by
    rw [Str.join.eq_3 _ _ _ (by simp)]
    exact ((h' t List.mem_cons_self).app h).app (Sm.join h fun x hx => h' x (List.mem_cons_of_mem _ hx))
theorem sm_of {t : String} (h : ((Str.ofString t).cps.toList.all fun d => decide (d < 128)) = true) : Sm (Str.ofString t) := fun c hc => of_decide_eq_true (List.all_eq_true.mp h c hc)
end Mir

namespace Mir
open PySem L2
end Mir

namespace Mir
open PySem L2
section
variable {ρ ρ1 ρ2 : En} {S S1 S2 S3 S4 : Sto} {a b o i v : ME} {m r : MA} {t : MT} {s : MS} {x y z : P} {d e : Vl} {ds es : List Vl} {xs ys : List P}
end
end Mir

namespace Mir
open PySem L2
section
variable {ρ : En} {S S1 S2 S3 : Sto} {a b : ME} {m : MA} {d e v : Vl} {ds : List Vl} {c : PySem.Str} {g : MF} {y : List Nat} {q : Bool}
end
end Mir

namespace Pl
open Mir
abbrev Row := Nat × List Nat
def deedS : List Nat := [99, 105, 110]
inductive Tr
  | leaf (s : Nat)
  | un (s : Nat) (t : Tr)
  | bin (s : Nat) (t u : Tr)
namespace Tr
def ok (ls : List Nat) : Tr → Prop
  | leaf s => s ∈ ls ∨ s = 48 ∨ s = 49
  | un s t => s ∈ deedS ∧ t.ok ls
  | bin s t u => (s = 38 ∨ s = 124) ∧ t.ok ls ∧ u.ok ls
def dep : Tr → Nat
  | leaf _ => 0
  | un _ t => t.dep + 1
  | bin _ t u => max t.dep u.dep + 1
def Den (L : List Row) : Nat → Tr → Prop
  | r, leaf s => L[r]? = some (s, [])
  | r, un s t => ∃ a, L[r]? = some (s, [a]) ∧ a < r ∧ Den L a t
  | r, bin s t u => ∃ a b, L[r]? = some (s, [a, b]) ∧ a < r ∧ b < r ∧ Den L a t ∧ Den L b u
end Tr
theorem pre_at {L M : List Row} {i : Nat} {r : Row} (h : L <+: M) (hi : L[i]? = some r) : M[i]? = some r := by
  obtain ⟨N, rfl⟩ := h
  rw [List.getElem?_append_left (List.getElem?_eq_some_iff.mp hi).1]
  exact hi
theorem Tr.Den.mono {L M : List Row} (h : L <+: M) : ∀ {t : Tr} {r : Nat}, Tr.Den L r t → Tr.Den M r t
  | .leaf s, r, d => pre_at h d
  | .un s t, r, d => by
    obtain ⟨a, h1, h2, h3⟩ := d
    exact ⟨a, pre_at h h1, h2, Tr.Den.mono h h3⟩
  | .bin s t u, r, d => by
    obtain ⟨a, b, h1, h2, h3, h4, h5⟩ := d
    exact ⟨a, b, pre_at h h1, h2, h3, Tr.Den.mono h h4, Tr.Den.mono h h5⟩
end Pl

namespace Mir
open PySem L2 PySem.W PyProof.Rows
end Mir

namespace Mir
open PySem L2
section
variable {ρ ρ1 ρ2 : En} {S S1 S2 S3 : Sto} {a b c e m : ME} {t u : MT} {s s' : MS} {Q : Fl → Sto → Prop}
end
end Mir

namespace Mir
open PySem L2
section
variable {ρ ρ1 : En} {S S1 S2 S3 : Sto} {a b cx : ME} {m r : MA} {s s' : MS} {d e v : Vl} {ds zs as : List Vl} {y : P} {c f : PySem.Str} {x : XD}



end
end Mir

namespace Mir
open PySem L2
section
variable {ρ : En} {S S1 S2 S3 : Sto} {a b : ME} {c c2 : Str} {g g2 : MF} {d e : Vl} {q : Bool}
end
end Mir

namespace Law
open PySem L2 Mir
def Urn (S : Sto) (k : Nat) : Prop := ∃ a b c : Int, S[k]? = some (.lst [.int a, .int b, .int c]) ∧ 0 ≤ a ∧ 0 ≤ b ∧ b < 2147483323 ∧ 0 ≤ c
structure Ux (k : Nat) (S S' : Sto) : Prop where
  len : S'.length = S.length
  urn : Urn S' k
  oth : ∀ j, j ≠ k → S'[j]? = S[j]?
theorem Ux.trans {k : Nat} {S S1 S2 : Sto} (h : Ux k S S1) (h' : Ux k S1 S2) : Ux k S S2 := ⟨h'.len.trans h.len, h'.urn, fun j hj => (h'.oth j hj).trans (h.oth j hj)⟩
theorem Ux.of_set {k : Nat} {S : Sto} {c : Cell} {a b e : Int} (hk : S[k]? = some c) (ha : 0 ≤ a) (hb : 0 ≤ b) (hb2 : b < 2147483323) (hc : 0 ≤ e) : Ux k S (S.set k (.lst [.int a, .int b, .int e])) :=
  ⟨List.length_set, ⟨a, b, e, get_set_self hk, ha, hb, hb2, hc⟩, fun j hj => get_set_ne (Ne.symm hj)⟩
theorem ladle_ok {S : Sto} {k : Nat} {n : Int} (hu : Urn S k) (hn : 0 < n) (hn2 : n < 1000000) : ∃ r S', m__law_ladle [.c k, .p (.int n)] S = .ok (.p (.int r)) S' ∧ 0 ≤ r ∧ r < n ∧ Ux k S S' := by
  obtain ⟨a, b, c, hk, ha, hb, hb2, hc⟩ := hu
  unfold m__law_ladle mkF b__law_ladle
  by_cases h0 : 0 < a
  · simp [nv_lst hk, ixV_lst hk, h0, bDiv_of hn (show n < 1073741824 by omega)]
    rw [setV_lst hk rfl]
    simp
    refine ⟨a % n, _, ⟨rfl, rfl⟩, Int.emod_nonneg _ (by omega), Int.emod_lt_of_pos _ hn, ?_⟩
    rw [take_len (List.length_set)]
    exact Ux.of_set hk (Int.ediv_nonneg ha (by omega)) hb hb2 hc
  · simp [nv_lst hk, ixV_lst hk, h0]
    rw [setV_lst hk rfl]
    simp
    have h1 := Ux.of_set (e := c + 1) hk ha hb hb2 (by omega)
    have hk1 : (S.set k (.lst [.int a, .int b, .int (c + 1)]))[k]? = _ := get_set_self hk
    generalize hS1 : S.set k (.lst [.int a, .int b, .int (c + 1)]) = S1 at *
    have e1 : ∀ x, bMul 54001 x = true := fun x => bMul_l (by decide) (by decide)
    have e2 : ∀ x, bMul 41 x = true := fun x => bMul_l (by decide) (by decide)
    have e3 : ∀ x : Int, bMod x 2147483323 = true := fun x => bMod_of (by decide)
    have e4 : ∀ x : Int, bMod x 25013 = true := fun x => bMod_of (by decide)
    simp [nv_lst hk1, ixV_lst hk1, e1, e2, e3, e4]
    generalize hB : (b + 54001 * (c + 1)) % 2147483323 = B
    have hB0 : 0 ≤ B := by rw [← hB]; exact Int.emod_nonneg _ (by decide)
    have hB1 : B < 2147483323 := by rw [← hB]; exact Int.emod_lt_of_pos _ (by decide)
    have e5 : ∀ x, bMul B x = true := fun x => bMul_l (by omega) (by omega)
    simp [e5, e2, e3, e4, nv_lst hk1, ixV_lst hk1]
    rw [setV_lst hk1 rfl]
    simp
    generalize hC : (B * (B % 25013 + 57037) + 41 * (c + 1) + 7) % 2147483323 = C
    have hC0 : 0 ≤ C := by rw [← hC]; exact Int.emod_nonneg _ (by decide)
    have hC1 : C < 2147483323 := by rw [← hC]; exact Int.emod_lt_of_pos _ (by decide)
    have h2 := Ux.of_set (a := a) (b := C) (e := c + 1) hk1 ha hC0 hC1 (by omega)
    have hk2 : (S1.set k (.lst [.int a, .int C, .int (c + 1)]))[k]? = _ := get_set_self hk1
    generalize hS2 : S1.set k (.lst [.int a, .int C, .int (c + 1)]) = S2 at *
    have e6 : ∀ x, bDiv x 193 = true := fun x => bDiv_of (by decide) (by decide)
    have e7 : ∀ x, bMod x n = true := fun x => bMod_of hn
    simp [nv_lst hk2, ixV_lst hk2, e6, e7]
    refine ⟨_, _, ⟨rfl, rfl⟩, Int.emod_nonneg _ (by omega), Int.emod_lt_of_pos _ hn, ?_⟩
    rw [take_len (h2.len.trans h1.len)]
    exact h1.trans h2
theorem pick_ok {S : Sto} {k : Nat} {xs : List P} (hu : Urn S k) (h0 : xs ≠ []) (hl : xs.length < 1000000) : ∃ x S', m__law_pick [.c k, .p (.lst xs)] S = .ok (.p x) S' ∧ x ∈ xs ∧ Ux k S S' := by
  have hp : 0 < xs.length := List.length_pos_iff.mpr h0
  obtain ⟨r, S', e, r0, r1, ux⟩ := ladle_ok (n := xs.length) hu (by omega) (by omega)
  have hr : r.toNat < xs.length := by omega
  refine ⟨xs[r.toNat], S', ?_, List.getElem_mem _, ux⟩
  unfold m__law_pick mkF b__law_pick
  simp [e]
  have e2 : atI xs r = some xs[r.toNat] := by
    have := atN (xs := xs) (i := r.toNat) (x := xs[r.toNat]) (by simp [hr])
    rwa [Int.toNat_of_nonneg r0] at this
  rw [e2]
  simp
  exact take_len ux.len
end Law

namespace Law
open PySem L2 Mir
def oddsP : List P := [.non, .int 0, .bl true, .str [120], .tup [.int 1, .str [121]], .lst [.int 2], .dct [] [], .int (10 ^ 59), .tup [], .int (-4)]
def matesP : List P := [.non, .int 1, .str [122], .tup [.tup []], .bl false]
theorem shAll : ∀ xs : List P, PyData.shownAll (xs.map toQ) = xs.map fun x => (toQ x).shown
  | [] => by rw [List.map_nil, PyData.shownAll]; rfl
  | x :: xs => by rw [List.map_cons, PyData.shownAll, shAll xs]; rfl
def okT (ts : List PySem.Str) : Bool := decide ((listText ts).length ≤ 100000) && asc (txL (listText ts))
def Sh (x : P) (t : PySem.Str) : Prop := okQ x = true ∧ (toQ x).shown = t
theorem so_0 : Sh (.non) "None" := ⟨by kernel_rfl, by kernel_rfl⟩
theorem so_1 : Sh (.int 0) "0" := ⟨by kernel_rfl, by kernel_rfl⟩
theorem so_2 : Sh (.bl true) "True" := ⟨by kernel_rfl, by kernel_rfl⟩
theorem so_3 : Sh (.str [120]) "'x'" := ⟨by kernel_rfl, by kernel_rfl⟩
theorem so_4 : Sh (.tup [.int 1, .str [121]]) "(1, 'y')" := ⟨by kernel_rfl, by kernel_rfl⟩
theorem so_5 : Sh (.lst [.int 2]) "[2]" := ⟨by kernel_rfl, by kernel_rfl⟩
theorem so_6 : Sh (.dct [] []) "{}" := ⟨by kernel_rfl, by kernel_rfl⟩
theorem so_7 : Sh (.int (10 ^ 59)) "100000000000000000000000000000000000000000000000000000000000" := ⟨by kernel_rfl, by kernel_rfl⟩
theorem so_8 : Sh (.tup []) "()" := ⟨by kernel_rfl, by kernel_rfl⟩
theorem so_9 : Sh (.int (-4)) "-4" := ⟨by kernel_rfl, by kernel_rfl⟩
theorem sm_0 : Sh (.non) "None" := ⟨by kernel_rfl, by kernel_rfl⟩
theorem sm_1 : Sh (.int 1) "1" := ⟨by kernel_rfl, by kernel_rfl⟩
theorem sm_2 : Sh (.str [122]) "'z'" := ⟨by kernel_rfl, by kernel_rfl⟩
theorem sm_3 : Sh (.tup [.tup []]) "((),)" := ⟨by kernel_rfl, by kernel_rfl⟩
theorem sm_4 : Sh (.bl false) "False" := ⟨by kernel_rfl, by kernel_rfl⟩
def oddT : List PySem.Str := ["None", "0", "True", "'x'", "(1, 'y')", "[2]", "{}", "100000000000000000000000000000000000000000000000000000000000", "()", "-4"]
def mateT : List PySem.Str := ["None", "1", "'z'", "((),)", "False"]
def sml (t : PySem.Str) : Bool := (t.cps.toList.all fun d => decide (d < 128)) && decide (t.length ≤ 100)
theorem odd_sml : (oddT.all sml) = true := by kernel_rfl
theorem mate_sml : (mateT.all sml) = true := by kernel_rfl
theorem sum_le {n : Nat} : ∀ {l : List Nat}, (∀ x ∈ l, x ≤ n) → l.sum ≤ n * l.length
  | [], _ => by simp
  | x :: l, h => by
    have := sum_le (n := n) (l := l) fun y hy => h y (List.mem_cons_of_mem _ hy)
    have h0 := h x List.mem_cons_self
    rw [List.sum_cons, List.length_cons, Nat.mul_succ]
    omega
theorem okT_of {ts : List PySem.Str} (h : ∀ t ∈ ts, sml t = true) (hl : ts.length ≤ 30) : okT ts = true := by
  have h1 : ∀ t ∈ ts, Sm t := fun t ht => by
    have z := h t ht
    unfold sml at z
    rw [Bool.and_eq_true] at z
    exact fun c hc => of_decide_eq_true (List.all_eq_true.mp z.1 c hc)
  have h2 : ∀ x ∈ ts.map (fun t => t.length + 2), x ≤ 102 := fun x hx => by
    obtain ⟨t, ht, rfl⟩ := List.mem_map.mp hx
    have z := h t ht
    unfold sml at z
    rw [Bool.and_eq_true, decide_eq_true_eq] at z
    omega
  have h3 := listText_le ts
  have h4 := sum_le h2
  rw [List.length_map] at h4
  unfold okT
  rw [Bool.and_eq_true, decide_eq_true_eq]
  refine ⟨by omega, ?_⟩
  unfold asc
  rw [List.all_eq_true]
  intro c hc
  have s : Sm (listText ts) := by
    rw [listText_eq_join]
    exact ((sm_of (by decide)).app (Sm.join (sm_of (by decide)) h1)).app (sm_of (by decide))
  exact decide_eq_true (s c hc)
theorem t24 {t : PySem.Str} (ht : t ∈ oddT) : okT (List.replicate 24 t) = true := okT_of (fun x hx => by rw [List.mem_replicate] at hx; rw [hx.2]; exact List.all_eq_true.mp odd_sml t ht) (by simp)
theorem t8 {t u : PySem.Str} (ht : t ∈ oddT) (hu : u ∈ mateT) : okT (List.replicate 8 t ++ [u]) = true := okT_of (fun x hx => by
  rw [List.mem_append, List.mem_replicate, List.mem_singleton] at hx
  rcases hx with ⟨_, rfl⟩ | rfl
  · exact List.all_eq_true.mp odd_sml _ ht
  · exact List.all_eq_true.mp mate_sml _ hu) (by simp)
theorem rp_ok {S : Sto} {xs : List P} {ts : List PySem.Str} (hx : ∀ x ∈ xs, okQ x = true) (ht : (xs.map fun x => (toQ x).shown) = ts) (h : okT ts = true) :
    reprQ (.p (.lst xs)) S = .ok (.p (.str (txL (listText ts)))) S ∧ asc (txL (listText ts)) = true := by
  have e : shQ xs = listText ts := by unfold shQ; rw [shAll, ht]
  unfold okT at h
  rw [Bool.and_eq_true, decide_eq_true_eq] at h
  refine ⟨?_, h.2⟩
  unfold reprQ
  show (if xs.all okQ && decide ((shQ xs).length ≤ 100000) then Res.ok (Vl.p (.str (txL (shQ xs)))) S else .bad) = _
  rw [if_pos (by rw [Bool.and_eq_true, decide_eq_true_eq]; exact ⟨List.all_eq_true.mpr hx, by rw [e]; exact h.1⟩), e]
theorem cmp_ok {S : Sto} {ρ : En} {a b : ME} {xs : List P} {ts : List PySem.Str} (ha : a ρ S = .ok (.p (.lst xs)) S) (hb : b ρ S = .ok (.p (.lst xs)) S) (hx : ∀ x ∈ xs, okQ x = true) (ht : (xs.map fun x => (toQ x).shown) = ts) (h : okT ts = true) :
    sIf (tVal (eBin pNe (eReprQ a) (eReprQ b))) (sRet (eC (.bl false))) sPass ρ S = .ok (.nx ρ) S := by
  obtain ⟨e, z⟩ := rp_ok (S := S) hx ht h
  have r : ∀ {m : ME}, m ρ S = .ok (.p (.lst xs)) S → eReprQ m ρ S = .ok (.p (.str (txL (listText ts)))) S := fun {m} hm => by
    unfold eReprQ
    rw [hm]
    exact e
  refine ev_sif (q := false) (ev_tval (ev_bin (r ha) (r hb) (rd_p _ _) (rd_p _ _) ?_)) (ifK_f ev_pass)
  have dt : (P.str (txL (listText ts))).dat 60 = true := z
  unfold pNe
  rw [dt, P.eqv_self _ _ dt]
  rfl
abbrev rA (o : P) : List P := [.err "InvalidText" ["given"] [o], .err "InvalidKind" ["given"] [o], .err "InvalidSet" ["given"] [o], .err "InvalidWord" ["given"] [o], .err "InvalidLetter" ["given"] [o], .err "InvalidNumber" ["given"] [o], .err "InvalidName" ["given"] [o], .err "InvalidIndex" ["given"] [o], .err "InvalidPromise" ["given"] [o], .err "InvalidCommand" ["given"] [o], .err "NotATerm" ["given"] [o], .err "NotASpace" ["given"] [o]]
abbrev rS (o : P) : List P := [.err "InvalidPremises" ["index"] [o], .err "InvalidSets" ["index"] [o]]
abbrev rN (o : P) : List P := [.err "UnknownName" ["given"] [o], .err "Taken" ["given"] [o], .err "InUse" ["index"] [o]]
abbrev rE (o m : P) : List P := [.err "TooMany" ["limit"] [o], .err "TooLong" ["limit"] [o], .err "Alone" [] [], .err "NothingToUndo" [] [], .err "Broken" ["shown", "index"] [m, o]]
abbrev En9 (o m : P) (a b d : Option Vl) (k : Option Vl) (pl : Option Vl) (told f l kept e : Option Vl) (n : Option Vl) : En := [some (.c 0), some (.p o), some (.p m), a, b, d, k, pl, told, f, l, kept, e, n]
section
variable (o m : P) (c : Cell)
abbrev E0 : En := En9 o m none none none none none none none none none none none
abbrev EA : En := En9 o m none none none none none none (some (.p (.lst (rA o)))) (some (.p (.lst (rA o)))) none none none
abbrev EB : En := En9 o m (some (.p (.lst [.lst (rS o), .lst (rS o)]))) none none none none none (some (.p (.lst (rA o)))) (some (.p (.lst (rA o)))) none none none
abbrev EC : En := En9 o m (some (.p (.lst [.lst (rS o), .lst (rS o)]))) (some (.c 1)) none none none none (some (.p (.lst (rA o)))) (some (.p (.lst (rA o)))) none none none
abbrev ED (k kept : Option Vl) : En := En9 o m (some (.p (.lst [.lst (rS o), .lst (rS o)]))) (some (.c 1)) (some (.c 2)) k none none (some (.p (.lst (rA o)))) (some (.p (.lst (rA o)))) kept none none
abbrev ST : Sto := [c, .lst [.lst (rN o), .lst (rN o)], .lst [.lst (rE o m), .lst (rE o m)]]
abbrev kp1 : P := .lst [o, o, o, o, o]
abbrev kp2 : P := .lst (List.replicate 8 o ++ [m])
theorem s1 : (sAsg (eFn m__law_first (aCons (eVar 1) aNil)) (gTp 2 (gCn (gNm 9) (gCn (gNm 10) gNl)))) (E0 o m) [c] = .ok (.nx (EA o m)) [c] := by kernel_rfl
theorem s2a : (eLc (itOf (eBin pAdd (eVar 9) (eVar 10))) [12] (gNm 12) tsYes (eErf ef_given "given" (eVar 12))) (EA o m) [c] = .ok (.p (.lst (List.replicate 24 o))) [c] := by kernel_rfl
theorem s2b : (eBin pMul (eLst (aCons (eVar 1) aNil)) (eC (.int 24))) (EA o m) [c] = .ok (.p (.lst (List.replicate 24 o))) [c] := by kernel_rfl
theorem s3 : (sAsg (eLst (aCons (eLst (aCons (eErr1 "InvalidPremises" "index" (aCons (eVar 1) aNil)) (aCons (eErr1 "InvalidSets" "index" (aCons (eVar 1) aNil)) aNil))) (aCons (eLst (aCons (eErr1 "InvalidPremises" "index" (aCons (eVar 1) aNil)) (aCons (eErr1 "InvalidSets" "index" (aCons (eVar 1) aNil)) aNil))) aNil))) (gNm 3)) (EA o m) [c] = .ok (.nx (EB o m)) [c] := by kernel_rfl
theorem s4 : (sAsg (eLstC (aCons (eLst (aCons (eErr1 "UnknownName" "given" (aCons (eVar 1) aNil)) (aCons (eErr1 "Taken" "given" (aCons (eVar 1) aNil)) (aCons (eErr1 "InUse" "index" (aCons (eVar 1) aNil)) aNil)))) aNil)) (gNm 4)) (EB o m) [c] = .ok (.nx (EC o m)) [c, .lst [.lst (rN o)]] := by kernel_rfl
theorem s5 : (sExpr (eMut isL fApp (eVar 4) (aCons (eLst (aCons (eErr1 "UnknownName" "given" (aCons (eVar 1) aNil)) (aCons (eErr1 "Taken" "given" (aCons (eVar 1) aNil)) (aCons (eErr1 "InUse" "index" (aCons (eVar 1) aNil)) aNil)))) aNil))) (EC o m) [c, .lst [.lst (rN o)]] = .ok (.nx (EC o m)) [c, .lst [.lst (rN o), .lst (rN o)]] := by kernel_rfl
theorem s6 : (sAsg (eLstC (aCons (eLst (aCons (eErr1 "TooMany" "limit" (aCons (eVar 1) aNil)) (aCons (eErr1 "TooLong" "limit" (aCons (eVar 1) aNil)) (aCons (eErr0 "Alone") (aCons (eErr0 "NothingToUndo") (aCons (eErr2 "Broken" "index" "shown" (aCons (eVar 1) (aCons (eVar 2) aNil))) aNil)))))) aNil)) (gNm 5)) (EC o m) [c, .lst [.lst (rN o), .lst (rN o)]] = .ok (.nx (ED o m none none)) [c, .lst [.lst (rN o), .lst (rN o)], .lst [.lst (rE o m)]] := by kernel_rfl
theorem s7 : (sExpr (eMut isL fApp (eVar 5) (aCons (eLst (aCons (eErr1 "TooMany" "limit" (aCons (eVar 1) aNil)) (aCons (eErr1 "TooLong" "limit" (aCons (eVar 1) aNil)) (aCons (eErr0 "Alone") (aCons (eErr0 "NothingToUndo") (aCons (eErr2K "Broken" "index" "shown" (aCons (eVar 2) (aCons (eVar 1) aNil))) aNil)))))) aNil))) (ED o m none none) [c, .lst [.lst (rN o), .lst (rN o)], .lst [.lst (rE o m)]] = .ok (.nx (ED o m none none)) (ST o m c) := by kernel_rfl
theorem b1_0 (x : Option Vl) : (sAsg (eBin pAdd (eLc (itOf (eItem (eVar 3) (eVar 6))) [12] (gNm 12) tsYes (eErf ef_index "index" (eVar 12))) (eLst (aCons (eErf ef_given "given" (eItem (eItem (eVar 4) (eVar 6)) (eC (.int 0)))) (aCons (eErf ef_given "given" (eItem (eItem (eVar 4) (eVar 6)) (eC (.int 1)))) (aCons (eErf ef_index "index" (eItem (eItem (eVar 4) (eVar 6)) (eC (.int 2)))) aNil))))) (gNm 11)) (ED o m (some (.p (.int 0))) x) (ST o m c) = .ok (.nx (ED o m (some (.p (.int 0))) (some (.p (kp1 o))))) (ST o m c) := by kernel_rfl
theorem b2_0 : (sAsg (eBin pAdd (eVar 11) (eLst (aCons (eErf ef_limit "limit" (eItem (eItem (eVar 5) (eVar 6)) (eC (.int 0)))) (aCons (eErf ef_limit "limit" (eItem (eItem (eVar 5) (eVar 6)) (eC (.int 1)))) (aCons (eErf ef_index "index" (eItem (eItem (eVar 5) (eVar 6)) (eC (.int 4)))) (aCons (eErf ef_shown "shown" (eItem (eItem (eVar 5) (eVar 6)) (eC (.int 4)))) aNil)))))) (gNm 11)) (ED o m (some (.p (.int 0))) (some (.p (kp1 o)))) (ST o m c) = .ok (.nx (ED o m (some (.p (.int 0))) (some (.p (kp2 o m))))) (ST o m c) := by kernel_rfl
theorem b3a_0 : (eVar 11) (ED o m (some (.p (.int 0))) (some (.p (kp2 o m)))) (ST o m c) = .ok (.p (kp2 o m)) (ST o m c) := by kernel_rfl
theorem b3b_0 : (eBin pAdd (eBin pMul (eLst (aCons (eVar 1) aNil)) (eC (.int 8))) (eLst (aCons (eVar 2) aNil))) (ED o m (some (.p (.int 0))) (some (.p (kp2 o m)))) (ST o m c) = .ok (.p (kp2 o m)) (ST o m c) := by kernel_rfl
theorem b4_0 : (sIf (tOrM (tNotM (tVal (eFn m__law_base_right (aCons (eBin pAdd (eItem (eTup (aCons (eVar 9) (aCons (eVar 10) aNil))) (eVar 6)) (eItem (eVar 3) (eVar 6))) (aCons (eC (.int 0)) (aCons (eC (.int 0)) aNil)))))) (tNotM (tVal (eFn m__law_base_right (aCons (eItem (eVar 4) (eVar 6)) (aCons (eC (.int 1)) (aCons (eC (.int 14)) aNil))))))) (sRet (eC (.bl false))) sPass) (ED o m (some (.p (.int 0))) (some (.p (kp2 o m)))) (ST o m c) = .ok (.nx (ED o m (some (.p (.int 0))) (some (.p (kp2 o m))))) (ST o m c) := by kernel_rfl
theorem b5_0 : (sIf (tNotM (tVal (eFn m__law_base_right (aCons (eItem (eVar 5) (eVar 6)) (aCons (eC (.int 2)) (aCons (eC (.int 17)) aNil)))))) (sRet (eC (.bl false))) sPass) (ED o m (some (.p (.int 0))) (some (.p (kp2 o m)))) (ST o m c) = .ok (.nx (ED o m (some (.p (.int 0))) (some (.p (kp2 o m))))) (ST o m c) := by kernel_rfl
theorem b1_1 (x : Option Vl) : (sAsg (eBin pAdd (eLc (itOf (eItem (eVar 3) (eVar 6))) [12] (gNm 12) tsYes (eErf ef_index "index" (eVar 12))) (eLst (aCons (eErf ef_given "given" (eItem (eItem (eVar 4) (eVar 6)) (eC (.int 0)))) (aCons (eErf ef_given "given" (eItem (eItem (eVar 4) (eVar 6)) (eC (.int 1)))) (aCons (eErf ef_index "index" (eItem (eItem (eVar 4) (eVar 6)) (eC (.int 2)))) aNil))))) (gNm 11)) (ED o m (some (.p (.int 1))) x) (ST o m c) = .ok (.nx (ED o m (some (.p (.int 1))) (some (.p (kp1 o))))) (ST o m c) := by kernel_rfl
theorem b2_1 : (sAsg (eBin pAdd (eVar 11) (eLst (aCons (eErf ef_limit "limit" (eItem (eItem (eVar 5) (eVar 6)) (eC (.int 0)))) (aCons (eErf ef_limit "limit" (eItem (eItem (eVar 5) (eVar 6)) (eC (.int 1)))) (aCons (eErf ef_index "index" (eItem (eItem (eVar 5) (eVar 6)) (eC (.int 4)))) (aCons (eErf ef_shown "shown" (eItem (eItem (eVar 5) (eVar 6)) (eC (.int 4)))) aNil)))))) (gNm 11)) (ED o m (some (.p (.int 1))) (some (.p (kp1 o)))) (ST o m c) = .ok (.nx (ED o m (some (.p (.int 1))) (some (.p (kp2 o m))))) (ST o m c) := by kernel_rfl
theorem b3a_1 : (eVar 11) (ED o m (some (.p (.int 1))) (some (.p (kp2 o m)))) (ST o m c) = .ok (.p (kp2 o m)) (ST o m c) := by kernel_rfl
theorem b3b_1 : (eBin pAdd (eBin pMul (eLst (aCons (eVar 1) aNil)) (eC (.int 8))) (eLst (aCons (eVar 2) aNil))) (ED o m (some (.p (.int 1))) (some (.p (kp2 o m)))) (ST o m c) = .ok (.p (kp2 o m)) (ST o m c) := by kernel_rfl
theorem b4_1 : (sIf (tOrM (tNotM (tVal (eFn m__law_base_right (aCons (eBin pAdd (eItem (eTup (aCons (eVar 9) (aCons (eVar 10) aNil))) (eVar 6)) (eItem (eVar 3) (eVar 6))) (aCons (eC (.int 0)) (aCons (eC (.int 0)) aNil)))))) (tNotM (tVal (eFn m__law_base_right (aCons (eItem (eVar 4) (eVar 6)) (aCons (eC (.int 1)) (aCons (eC (.int 14)) aNil))))))) (sRet (eC (.bl false))) sPass) (ED o m (some (.p (.int 1))) (some (.p (kp2 o m)))) (ST o m c) = .ok (.nx (ED o m (some (.p (.int 1))) (some (.p (kp2 o m))))) (ST o m c) := by kernel_rfl
theorem b5_1 : (sIf (tNotM (tVal (eFn m__law_base_right (aCons (eItem (eVar 5) (eVar 6)) (aCons (eC (.int 2)) (aCons (eC (.int 17)) aNil)))))) (sRet (eC (.bl false))) sPass) (ED o m (some (.p (.int 1))) (some (.p (kp2 o m)))) (ST o m c) = .ok (.nx (ED o m (some (.p (.int 1))) (some (.p (kp2 o m))))) (ST o m c) := by kernel_rfl
def last_ : MS := (sSeq (sAsg (eLc (itOf (eLst (aCons (eErr0 "WrongValue") (aCons (eErr0 "WrongName") (aCons (eErr0 "NoAnswer") aNil))))) [12] (gNm 12) tsYes (eFn m__law_bases (aCons (eVar 12) aNil))) (gNm 7)) (sSeq (sIf (tVal (eBin pNe (eVar 7) (eLc (itRange1 (eC (.int 3))) [6] (gNm 6) tsYes (eLc (itRange1 (eC (.int 6))) [13] (gNm 13) tsYes (eBin pEq (eBin (pIC bMod fun i j => i % j) (eVar 13) (eC (.int 3))) (eVar 6)))))) (sRet (eC (.bl false))) sPass) (sSeq (sAsg (eLst (aCons (eC (.int 256)) (aCons (eC (.int 300)) (aCons (eC (.int 8)) (aCons (eC (.int 40)) (aCons (eC (.int 4)) (aCons (eC (.int 4)) (aCons (eC (.int 8)) aNil)))))))) (gNm 8)) (sRet (eBin pEq (eReprQ (eVar 8)) (eReprQ (eLst (aCons (eC (.int 256)) (aCons (eC (.int 300)) (aCons (eC (.int 8)) (aCons (eC (.int 40)) (aCons (eC (.int 4)) (aCons (eC (.int 4)) (aCons (eC (.int 8)) aNil))))))))))))))
def retT : RF → Bool
  | .ok (.rt (.p (.bl true))) _ => true
  | _ => false
theorem retT_ok {r : RF} (h : retT r = true) : ∃ S, r = .ok (.rt (.p (.bl true))) S := by
  unfold retT at h
  split at h
  · exact ⟨_, rfl⟩
  · cases h
theorem s9 : retT (last_ (ED o m (some (.p (.int 1))) (some (.p (kp2 o m)))) (ST o m c)) = true := by kernel_rfl
end
def body_ : MS := (sSeq (sAsg (eBin pAdd (eLc (itOf (eItem (eVar 3) (eVar 6))) [12] (gNm 12) tsYes (eErf ef_index "index" (eVar 12))) (eLst (aCons (eErf ef_given "given" (eItem (eItem (eVar 4) (eVar 6)) (eC (.int 0)))) (aCons (eErf ef_given "given" (eItem (eItem (eVar 4) (eVar 6)) (eC (.int 1)))) (aCons (eErf ef_index "index" (eItem (eItem (eVar 4) (eVar 6)) (eC (.int 2)))) aNil))))) (gNm 11)) (sSeq (sAsg (eBin pAdd (eVar 11) (eLst (aCons (eErf ef_limit "limit" (eItem (eItem (eVar 5) (eVar 6)) (eC (.int 0)))) (aCons (eErf ef_limit "limit" (eItem (eItem (eVar 5) (eVar 6)) (eC (.int 1)))) (aCons (eErf ef_index "index" (eItem (eItem (eVar 5) (eVar 6)) (eC (.int 4)))) (aCons (eErf ef_shown "shown" (eItem (eItem (eVar 5) (eVar 6)) (eC (.int 4)))) aNil)))))) (gNm 11)) (sSeq (sIf (tVal (eBin pNe (eReprQ (eVar 11)) (eReprQ (eBin pAdd (eBin pMul (eLst (aCons (eVar 1) aNil)) (eC (.int 8))) (eLst (aCons (eVar 2) aNil)))))) (sRet (eC (.bl false))) sPass) (sSeq (sIf (tOrM (tNotM (tVal (eFn m__law_base_right (aCons (eBin pAdd (eItem (eTup (aCons (eVar 9) (aCons (eVar 10) aNil))) (eVar 6)) (eItem (eVar 3) (eVar 6))) (aCons (eC (.int 0)) (aCons (eC (.int 0)) aNil)))))) (tNotM (tVal (eFn m__law_base_right (aCons (eItem (eVar 4) (eVar 6)) (aCons (eC (.int 1)) (aCons (eC (.int 14)) aNil))))))) (sRet (eC (.bl false))) sPass) (sIf (tNotM (tVal (eFn m__law_base_right (aCons (eItem (eVar 5) (eVar 6)) (aCons (eC (.int 2)) (aCons (eC (.int 17)) aNil)))))) (sRet (eC (.bl false))) sPass)))))
def rest_r : MS := (sSeq (sAsg (eFn m__law_first (aCons (eVar 1) aNil)) (gTp 2 (gCn (gNm 9) (gCn (gNm 10) gNl)))) (sSeq (sIf (tVal (eBin pNe (eReprQ (eLc (itOf (eBin pAdd (eVar 9) (eVar 10))) [12] (gNm 12) tsYes (eErf ef_given "given" (eVar 12)))) (eReprQ (eBin pMul (eLst (aCons (eVar 1) aNil)) (eC (.int 24)))))) (sRet (eC (.bl false))) sPass) (sSeq (sAsg (eLst (aCons (eLst (aCons (eErr1 "InvalidPremises" "index" (aCons (eVar 1) aNil)) (aCons (eErr1 "InvalidSets" "index" (aCons (eVar 1) aNil)) aNil))) (aCons (eLst (aCons (eErr1 "InvalidPremises" "index" (aCons (eVar 1) aNil)) (aCons (eErr1 "InvalidSets" "index" (aCons (eVar 1) aNil)) aNil))) aNil))) (gNm 3)) (sSeq (sAsg (eLstC (aCons (eLst (aCons (eErr1 "UnknownName" "given" (aCons (eVar 1) aNil)) (aCons (eErr1 "Taken" "given" (aCons (eVar 1) aNil)) (aCons (eErr1 "InUse" "index" (aCons (eVar 1) aNil)) aNil)))) aNil)) (gNm 4)) (sSeq (sExpr (eMut isL fApp (eVar 4) (aCons (eLst (aCons (eErr1 "UnknownName" "given" (aCons (eVar 1) aNil)) (aCons (eErr1 "Taken" "given" (aCons (eVar 1) aNil)) (aCons (eErr1 "InUse" "index" (aCons (eVar 1) aNil)) aNil)))) aNil))) (sSeq (sAsg (eLstC (aCons (eLst (aCons (eErr1 "TooMany" "limit" (aCons (eVar 1) aNil)) (aCons (eErr1 "TooLong" "limit" (aCons (eVar 1) aNil)) (aCons (eErr0 "Alone") (aCons (eErr0 "NothingToUndo") (aCons (eErr2 "Broken" "index" "shown" (aCons (eVar 1) (aCons (eVar 2) aNil))) aNil)))))) aNil)) (gNm 5)) (sSeq (sExpr (eMut isL fApp (eVar 5) (aCons (eLst (aCons (eErr1 "TooMany" "limit" (aCons (eVar 1) aNil)) (aCons (eErr1 "TooLong" "limit" (aCons (eVar 1) aNil)) (aCons (eErr0 "Alone") (aCons (eErr0 "NothingToUndo") (aCons (eErr2K "Broken" "index" "shown" (aCons (eVar 2) (aCons (eVar 1) aNil))) aNil)))))) aNil))) (sSeq (sFor (itRange1 (eC (.int 2))) (gNm 6) (sSeq (sAsg (eBin pAdd (eLc (itOf (eItem (eVar 3) (eVar 6))) [12] (gNm 12) tsYes (eErf ef_index "index" (eVar 12))) (eLst (aCons (eErf ef_given "given" (eItem (eItem (eVar 4) (eVar 6)) (eC (.int 0)))) (aCons (eErf ef_given "given" (eItem (eItem (eVar 4) (eVar 6)) (eC (.int 1)))) (aCons (eErf ef_index "index" (eItem (eItem (eVar 4) (eVar 6)) (eC (.int 2)))) aNil))))) (gNm 11)) (sSeq (sAsg (eBin pAdd (eVar 11) (eLst (aCons (eErf ef_limit "limit" (eItem (eItem (eVar 5) (eVar 6)) (eC (.int 0)))) (aCons (eErf ef_limit "limit" (eItem (eItem (eVar 5) (eVar 6)) (eC (.int 1)))) (aCons (eErf ef_index "index" (eItem (eItem (eVar 5) (eVar 6)) (eC (.int 4)))) (aCons (eErf ef_shown "shown" (eItem (eItem (eVar 5) (eVar 6)) (eC (.int 4)))) aNil)))))) (gNm 11)) (sSeq (sIf (tVal (eBin pNe (eReprQ (eVar 11)) (eReprQ (eBin pAdd (eBin pMul (eLst (aCons (eVar 1) aNil)) (eC (.int 8))) (eLst (aCons (eVar 2) aNil)))))) (sRet (eC (.bl false))) sPass) (sSeq (sIf (tOrM (tNotM (tVal (eFn m__law_base_right (aCons (eBin pAdd (eItem (eTup (aCons (eVar 9) (aCons (eVar 10) aNil))) (eVar 6)) (eItem (eVar 3) (eVar 6))) (aCons (eC (.int 0)) (aCons (eC (.int 0)) aNil)))))) (tNotM (tVal (eFn m__law_base_right (aCons (eItem (eVar 4) (eVar 6)) (aCons (eC (.int 1)) (aCons (eC (.int 14)) aNil))))))) (sRet (eC (.bl false))) sPass) (sIf (tNotM (tVal (eFn m__law_base_right (aCons (eItem (eVar 5) (eVar 6)) (aCons (eC (.int 2)) (aCons (eC (.int 17)) aNil)))))) (sRet (eC (.bl false))) sPass)))))) (sSeq (sAsg (eLc (itOf (eLst (aCons (eErr0 "WrongValue") (aCons (eErr0 "WrongName") (aCons (eErr0 "NoAnswer") aNil))))) [12] (gNm 12) tsYes (eFn m__law_bases (aCons (eVar 12) aNil))) (gNm 7)) (sSeq (sIf (tVal (eBin pNe (eVar 7) (eLc (itRange1 (eC (.int 3))) [6] (gNm 6) tsYes (eLc (itRange1 (eC (.int 6))) [13] (gNm 13) tsYes (eBin pEq (eBin (pIC bMod fun i j => i % j) (eVar 13) (eC (.int 3))) (eVar 6)))))) (sRet (eC (.bl false))) sPass) (sSeq (sAsg (eLst (aCons (eC (.int 256)) (aCons (eC (.int 300)) (aCons (eC (.int 8)) (aCons (eC (.int 40)) (aCons (eC (.int 4)) (aCons (eC (.int 4)) (aCons (eC (.int 8)) aNil)))))))) (gNm 8)) (sRet (eBin pEq (eReprQ (eVar 8)) (eReprQ (eLst (aCons (eC (.int 256)) (aCons (eC (.int 300)) (aCons (eC (.int 8)) (aCons (eC (.int 40)) (aCons (eC (.int 4)) (aCons (eC (.int 4)) (aCons (eC (.int 8)) aNil))))))))))))))))))))))
theorem ev_seqN {s s' : MS} {ρ ρ1 : En} {S S1 : Sto} {o : RF} (h1 : s ρ S = .ok (.nx ρ1) S1) (h2 : s' ρ1 S1 = o) : sSeq s s' ρ S = o := ev_seq h1 h2
theorem body_ok {o m : P} {c : Cell} {k : Nat} (hk : k = 0 ∨ k = 1) (hx : ∀ x ∈ List.replicate 8 o ++ [m], okQ x = true) {ts : List PySem.Str} (ht : ((List.replicate 8 o ++ [m]).map fun x => (toQ x).shown) = ts) (h : okT ts = true) (x : Option Vl) :
    body_ (ED o m (some (.p (.int (k : Int)))) x) (ST o m c) = .ok (.nx (ED o m (some (.p (.int (k : Int)))) (some (.p (kp2 o m))))) (ST o m c) := by
  unfold body_
  rcases hk with rfl | rfl
  · exact ev_seqN (b1_0 o m c x) (ev_seqN (b2_0 o m c) (ev_seqN (cmp_ok (b3a_0 o m c) (b3b_0 o m c) hx ht h) (ev_seqN (b4_0 o m c) (b5_0 o m c))))
  · exact ev_seqN (b1_1 o m c x) (ev_seqN (b2_1 o m c) (ev_seqN (cmp_ok (b3a_1 o m c) (b3b_1 o m c) hx ht h) (ev_seqN (b4_1 o m c) (b5_1 o m c))))
theorem fgN {g : MG} {b : MS} {x : P} {xs : List P} {ρ ρ1 ρ2 : En} {S S1 S2 : Sto} {o : RF} (hg : g (.p x) ρ S = .ok ρ1 S1) (hb : b ρ1 S1 = .ok (.nx ρ2) S2) (hr : forGo g b xs ρ2 S2 = o) : forGo g b (x :: xs) ρ S = o := by
  rw [forGo_cons, hg, nox_ok, go_ok, hb]
  exact hr
theorem rest_ok {o m : P} {c : Cell} {t u : PySem.Str} (ho : Sh o t) (hm : Sh m u) (h1 : okT (List.replicate 24 t) = true) (h2 : okT (List.replicate 8 t ++ [u]) = true) : retT (rest_r (E0 o m) [c]) = true := by
  have hx : ∀ x ∈ List.replicate 8 o ++ [m], okQ x = true := by
    intro x hx
    rw [List.mem_append, List.mem_replicate, List.mem_singleton] at hx
    rcases hx with ⟨_, rfl⟩ | rfl
    · exact ho.1
    · exact hm.1
  have ht : ((List.replicate 8 o ++ [m]).map fun x => (toQ x).shown) = List.replicate 8 t ++ [u] := by
    rw [List.map_append, List.map_replicate, ho.2, List.map_cons, List.map_nil, hm.2]
  have c24 := cmp_ok (s2a o m c) (s2b o m c) (fun x hx => by rw [List.mem_replicate] at hx; rw [hx.2]; exact ho.1) (ts := List.replicate 24 t) (by rw [List.map_replicate, ho.2]) h1
  have lp : (sFor (itRange1 (eC (.int 2))) (gNm 6) (sSeq (sAsg (eBin pAdd (eLc (itOf (eItem (eVar 3) (eVar 6))) [12] (gNm 12) tsYes (eErf ef_index "index" (eVar 12))) (eLst (aCons (eErf ef_given "given" (eItem (eItem (eVar 4) (eVar 6)) (eC (.int 0)))) (aCons (eErf ef_given "given" (eItem (eItem (eVar 4) (eVar 6)) (eC (.int 1)))) (aCons (eErf ef_index "index" (eItem (eItem (eVar 4) (eVar 6)) (eC (.int 2)))) aNil))))) (gNm 11)) (sSeq (sAsg (eBin pAdd (eVar 11) (eLst (aCons (eErf ef_limit "limit" (eItem (eItem (eVar 5) (eVar 6)) (eC (.int 0)))) (aCons (eErf ef_limit "limit" (eItem (eItem (eVar 5) (eVar 6)) (eC (.int 1)))) (aCons (eErf ef_index "index" (eItem (eItem (eVar 5) (eVar 6)) (eC (.int 4)))) (aCons (eErf ef_shown "shown" (eItem (eItem (eVar 5) (eVar 6)) (eC (.int 4)))) aNil)))))) (gNm 11)) (sSeq (sIf (tVal (eBin pNe (eReprQ (eVar 11)) (eReprQ (eBin pAdd (eBin pMul (eLst (aCons (eVar 1) aNil)) (eC (.int 8))) (eLst (aCons (eVar 2) aNil)))))) (sRet (eC (.bl false))) sPass) (sSeq (sIf (tOrM (tNotM (tVal (eFn m__law_base_right (aCons (eBin pAdd (eItem (eTup (aCons (eVar 9) (aCons (eVar 10) aNil))) (eVar 6)) (eItem (eVar 3) (eVar 6))) (aCons (eC (.int 0)) (aCons (eC (.int 0)) aNil)))))) (tNotM (tVal (eFn m__law_base_right (aCons (eItem (eVar 4) (eVar 6)) (aCons (eC (.int 1)) (aCons (eC (.int 14)) aNil))))))) (sRet (eC (.bl false))) sPass) (sIf (tNotM (tVal (eFn m__law_base_right (aCons (eItem (eVar 5) (eVar 6)) (aCons (eC (.int 2)) (aCons (eC (.int 17)) aNil)))))) (sRet (eC (.bl false))) sPass)))))) (ED o m none none) (ST o m c) = .ok (.nx (ED o m (some (.p (.int 1))) (some (.p (kp2 o m))))) (ST o m c) := by
    have e : sFor (itRange1 (eC (.int 2))) (gNm 6) body_ (ED o m none none) (ST o m c) = forGo (gNm 6) body_ [.int 0, .int 1] (ED o m none none) (ST o m c) := rfl
    show sFor (itRange1 (eC (.int 2))) (gNm 6) body_ (ED o m none none) (ST o m c) = _
    rw [e]
    exact fgN (ρ1 := ED o m (some (.p (.int 0))) none) rfl (body_ok (k := 0) (.inl rfl) hx ht h2 none) (fgN (ρ1 := ED o m (some (.p (.int 1))) (some (.p (kp2 o m)))) rfl (body_ok (k := 1) (.inr rfl) hx ht h2 _) rfl)
  obtain ⟨S', e9⟩ := retT_ok (s9 o m c)
  have all : rest_r (E0 o m) [c] = .ok (.rt (.p (.bl true))) S' := by
    unfold rest_r
    exact ev_seqN (s1 o m c) (ev_seqN c24 (ev_seqN (s3 o m c) (ev_seqN (s4 o m c) (ev_seqN (s5 o m c) (ev_seqN (s6 o m c) (ev_seqN (s7 o m c) (ev_seqN lp e9)))))))
  rw [all]
  rfl
theorem q_all (c : Cell) : ∀ o ∈ oddsP, ∀ m ∈ matesP, retT (rest_r (E0 o m) [c]) = true := by
  intro o ho m hm
  have hM : ∃ u ∈ mateT, Sh m u := by
    unfold matesP at hm
    simp only [List.mem_cons, List.not_mem_nil, or_false] at hm
    rcases hm with rfl | rfl | rfl | rfl | rfl
    · exact ⟨"None", by unfold mateT; simp, sm_0⟩
    · exact ⟨"1", by unfold mateT; simp, sm_1⟩
    · exact ⟨"'z'", by unfold mateT; simp, sm_2⟩
    · exact ⟨"((),)", by unfold mateT; simp, sm_3⟩
    · exact ⟨"False", by unfold mateT; simp, sm_4⟩
  obtain ⟨u, hu, sm⟩ := hM
  unfold oddsP at ho
  simp only [List.mem_cons, List.not_mem_nil, or_false] at ho
  rcases ho with rfl | rfl | rfl | rfl | rfl | rfl | rfl | rfl | rfl | rfl
  · exact rest_ok so_0 sm (t24 (by unfold oddT; simp)) (t8 (by unfold oddT; simp) hu)
  · exact rest_ok so_1 sm (t24 (by unfold oddT; simp)) (t8 (by unfold oddT; simp) hu)
  · exact rest_ok so_2 sm (t24 (by unfold oddT; simp)) (t8 (by unfold oddT; simp) hu)
  · exact rest_ok so_3 sm (t24 (by unfold oddT; simp)) (t8 (by unfold oddT; simp) hu)
  · exact rest_ok so_4 sm (t24 (by unfold oddT; simp)) (t8 (by unfold oddT; simp) hu)
  · exact rest_ok so_5 sm (t24 (by unfold oddT; simp)) (t8 (by unfold oddT; simp) hu)
  · exact rest_ok so_6 sm (t24 (by unfold oddT; simp)) (t8 (by unfold oddT; simp) hu)
  · exact rest_ok so_7 sm (t24 (by unfold oddT; simp)) (t8 (by unfold oddT; simp) hu)
  · exact rest_ok so_8 sm (t24 (by unfold oddT; simp)) (t8 (by unfold oddT; simp) hu)
  · exact rest_ok so_9 sm (t24 (by unfold oddT; simp)) (t8 (by unfold oddT; simp) hu)
end Law

local macro_rules | `(tactic| exists cell_run) => `(tactic| first | with_reducible assumption | with_reducible exact Mir.cell0 | with_reducible exact Mir.cell1 | with_reducible exact Mir.cell2)
local macro_rules | `(tactic| exists sd_run) => `(tactic| first | assumption | omega | decide | solve_by_elim (transparency := .reducible) only [*] | (focus have := List.mem_range.mp (by assumption); omega) | (focus simp; done) | (focus simp; omega))
local macro_rules | `(tactic| exists op_run) => `(tactic| first
  | with_reducible assumption
  | with_reducible exact Mir.op_addN1 | with_reducible exact Mir.op_add1N | with_reducible exact Mir.op_addN | with_reducible exact Mir.op_add
  | (with_reducible apply Mir.op_addS) <;> exists sd_run | (with_reducible apply Mir.op_addLm) <;> exists sd_run | (with_reducible apply Mir.op_addTm) <;> exists sd_run | (with_reducible apply Mir.op_addL) <;> exists sd_run | (with_reducible apply Mir.op_addT) <;> exists sd_run
  | ((with_reducible apply Mir.op_sub1) <;> exists sq_run) | ((with_reducible apply Mir.op_subN) <;> exists sq_run) | ((with_reducible apply Mir.op_modN) <;> exists sq_run) | with_reducible exact Mir.op_int | with_reducible exact Mir.op_neg1 | with_reducible exact Mir.op_neg | with_reducible exact Mir.op_mul2 | with_reducible exact Mir.op_init | with_reducible exact Mir.op_eqL1
  | with_reducible exact Mir.op_band | with_reducible exact Mir.op_bandnot | with_reducible exact Mir.op_and1 | with_reducible exact Mir.op_pI | with_reducible exact Mir.op_inv
  | (with_reducible apply Mir.op_shl) <;> exists sd_run | with_reducible exact Mir.op_shr
  | with_reducible exact Mir.op_eqB | with_reducible exact Mir.op_neB | with_reducible exact Mir.op_niB | with_reducible exact Mir.op_is | with_reducible exact Mir.op_isNot
  | with_reducible exact Mir.op_eqB1 | with_reducible exact Mir.op_eqB0 | with_reducible exact Mir.op_eqN | with_reducible exact Mir.op_neN | with_reducible exact Mir.op_eqN0 | with_reducible exact Mir.op_neN0 | (with_reducible apply Mir.op_eqX) <;> exists dat_run | (with_reducible apply Mir.op_neX) <;> exists dat_run | ((with_reducible apply Mir.eqc_t); exact rfl) | ((with_reducible apply Mir.eqc_f); exact rfl) | ((with_reducible apply Mir.nec_t); exact rfl) | ((with_reducible apply Mir.nec_f); exact rfl) | with_reducible exact Mir.op_eqI | with_reducible exact Mir.op_neI
  | with_reducible exact Mir.op_ltN | with_reducible exact Mir.op_leN | with_reducible exact Mir.op_gtN | with_reducible exact Mir.op_geN | with_reducible exact Mir.op_pIB
  | (with_reducible apply Mir.op_neL0) <;> exists sd_run | (with_reducible apply Mir.op_eqL0) <;> exists sd_run | (with_reducible apply Mir.op_neT0) <;> exists sd_run | (with_reducible apply Mir.op_eqT0) <;> exists sd_run
  | ((with_reducible apply Mir.op_reprL) <;> exists dat_run)
  | (with_reducible apply Mir.op_eqX) <;> exists dat_run | (with_reducible apply Mir.op_neX) <;> exists dat_run
  | ((with_reducible apply Mir.eqc_t); exact rfl) | ((with_reducible apply Mir.eqc_f); exact rfl) | ((with_reducible apply Mir.nec_t); exact rfl) | ((with_reducible apply Mir.nec_f); exact rfl)
  | (with_reducible apply Mir.op_eqS) <;> exists sd_run | (with_reducible apply Mir.op_neS) <;> exists sd_run
  | (with_reducible apply Mir.op_eqTS) <;> exists sd_run | (with_reducible apply Mir.op_neTS) <;> exists sd_run
  | with_reducible exact Mir.op_inSL' | with_reducible exact Mir.op_inST' | with_reducible exact Mir.op_inNL' | with_reducible exact Mir.op_niSL' | with_reducible exact Mir.op_niST' | with_reducible exact Mir.op_niNL'
  | with_reducible exact Mir.op_inSL | with_reducible exact Mir.op_inST | with_reducible exact Mir.op_inNL | with_reducible exact Mir.op_niSL | with_reducible exact Mir.op_niST | with_reducible exact Mir.op_niNL
  | ((with_reducible apply Mir.inc_t); exact rfl) | ((with_reducible apply Mir.inc_f); exact rfl) | ((with_reducible apply Mir.nic_t); exact rfl) | ((with_reducible apply Mir.nic_f); exact rfl)
  | with_reducible exact Mir.op_lenLm | with_reducible exact Mir.op_lenTm | with_reducible exact Mir.op_lenL | with_reducible exact Mir.op_lenT | (with_reducible apply Mir.op_lenS) <;> exists sd_run
  | with_reducible exact Mir.op_tupL | with_reducible exact Mir.op_tupT | with_reducible exact Mir.op_lstL | with_reducible exact Mir.op_lstT
  | with_reducible exact Mir.op_sum | with_reducible exact Mir.op_all | with_reducible exact Mir.op_all2 | with_reducible exact Mir.op_any
  | with_reducible exact Mir.ix_l0 | with_reducible exact Mir.ix_l1 | with_reducible exact Mir.ix_l2 | with_reducible exact Mir.ix_l3 | with_reducible exact Mir.ix_l4 | with_reducible exact Mir.ix_l5 | with_reducible exact Mir.ix_t0 | with_reducible exact Mir.ix_t1 | with_reducible exact Mir.ix_t2 | with_reducible exact Mir.ix_t3
  | (with_reducible apply Mir.ix_ls) <;> exists sd_run | (with_reducible apply Mir.ix_ln) <;> exists sd_run | (with_reducible apply Mir.ix_ts) <;> exists sd_run | (with_reducible apply Mir.ix_lm) <;> exists sd_run
  | with_reducible assumption)
local macro_rules | `(tactic| exists call_run) => `(tactic| first | with_reducible assumption | (apply_assumption (transparency := .reducible) only [*] <;> first | with_reducible assumption | omega))
local macro_rules | `(tactic| exists rd_run) => `(tactic| first | with_reducible exact Mir.rd_p _ _ | with_reducible exact Mir.rds_nil _ | (with_reducible apply Mir.rds_c) <;> exists rd_run | exact Mir.rd_lst (by exists cell_run) | exact Mir.rd_fz (by exists cell_run))
local macro_rules | `(tactic| exists ev_run) => `(tactic| first
  | with_reducible exact Mir.ev_c
  | ((with_reducible apply Mir.ev_var); exact rfl)
  | with_reducible exact Mir.ev_anil
  | (with_reducible apply Mir.ev_acons) <;> exists ev_run
  | ((with_reducible apply Mir.ev_bin); exists ev_run; exists ev_run; exists rd_run; exists rd_run; exists op_run)
  | ((with_reducible apply Mir.ev_un); exists ev_run; exists rd_run; exists op_run)
  | ((with_reducible apply Mir.ev_item); exists ev_run; exists ev_run; exists ix_run)
  | ((with_reducible apply Mir.ev_call); exists ev_run; exists rd_run; exists op_run)
  | ((with_reducible apply Mir.ev_mth); exists ev_run; exists rd_run; exact rfl; exists ev_run; exists rd_run; exists rd_run; exists op_run)
  | ((with_reducible apply Mir.ev_fn); exists ev_run; exists call_run)
  | ((with_reducible apply Mir.ev_fnK); exists ev_run; exists ev_run; exact rfl; exact rfl; exists perm_run; exists call_run)
  | ((with_reducible apply Mir.ev_meth); exists ev_run; kernel_rfl; exists ev_run; exists call_run)
  | ((with_reducible apply Mir.ev_methK); exists ev_run; kernel_rfl; exists ev_run; exists ev_run; exact rfl; exact rfl; exists perm_run; exists call_run)
  | ((with_reducible apply Mir.ev_make); exists ev_run; exists call_run)
  | ((with_reducible apply Mir.ev_fld); exists ev_run; exists fld_run)
  | ((with_reducible apply Mir.ev_prop); exists ev_run; kernel_rfl; exists call_run)
  | ((with_reducible apply Mir.ev_tval); exists ev_run)
  | ((with_reducible apply Mir.ev_tand) <;> exists ev_run)
  | ((with_reducible apply Mir.ev_tor) <;> exists ev_run)
  | ((with_reducible apply Mir.ev_tnot); exists ev_run; exists not_run)
  | ((with_reducible apply Mir.ev_eand) <;> exists ev_run)
  | ((with_reducible apply Mir.ev_eor) <;> exists ev_run)
  | ((with_reducible apply Mir.ev_enot); exists ev_run; exists not_run)
  | ((with_reducible apply Mir.ev_if) <;> exists ev_run)
  | with_reducible exact Mir.andK_f | ((with_reducible apply Mir.andK_t); exists ev_run) | ((with_reducible apply Mir.andK_s); intro _; exists ev_run)
  | with_reducible exact Mir.orK_t | ((with_reducible apply Mir.orK_f); exists ev_run) | ((with_reducible apply Mir.orK_s); intro _; exists ev_run)
  | with_reducible exact Mir.eandK_f | ((with_reducible apply Mir.eandK_t); exists ev_run) | ((with_reducible apply Mir.eandK_s); intro _; exists ev_run)
  | with_reducible exact Mir.eorK_t | ((with_reducible apply Mir.eorK_f); exists ev_run) | ((with_reducible apply Mir.eorK_s); intro _; exists ev_run)
  | ((with_reducible apply Mir.ifK_t); exists ev_run) | ((with_reducible apply Mir.ifK_f); exists ev_run)
  | ((with_reducible apply Mir.ifK_yes); (with_reducible assumption); exists ev_run) | ((with_reducible apply Mir.ifK_no); (with_reducible assumption); exists ev_run)
  | ((with_reducible apply Mir.ifK_n) <;> (intro _; exists ev_run))
  | ((with_reducible apply Mir.ifK_i) <;> (intro _; exists ev_run))
  | ((with_reducible apply Mir.ifK_s) <;> (intro _; exists ev_run))
  | ((with_reducible apply Mir.ev_isN); exists ev_run; exact rfl)
  | ((with_reducible apply Mir.ev_notN); exists ev_run; exact rfl)
  | ((with_reducible apply Mir.ev_sl); exists ev_run; exists ev_run; exists ev_run; exists rd_run; exists op_run)
  | with_reducible exact Mir.ev_ono | ((with_reducible apply Mir.ev_oyes); exists ev_run)
  | ((with_reducible apply Mir.ev_tup); exists ev_run; exists fz_run; exists sd_run)
  | ((with_reducible apply Mir.ev_lst); exists ev_run; exists fz_run; exists sd_run)
  | ((with_reducible apply Mir.ev_lstC); exists ev_run; exists fz_run; exists sd_run)
  | ((with_reducible apply Mir.ev_itOf); exists ev_run; exists fz_run; exact rfl)
  | with_reducible exact Mir.rng_1 | with_reducible exact Mir.rng_2 | with_reducible exact Mir.rng_3 | with_reducible exact Mir.rng_4 | with_reducible exact Mir.rng_5 | with_reducible exact Mir.rng_6 | with_reducible exact Mir.rng_8
  | ((with_reducible apply Mir.ev_range1); exists ev_run; exists sd_run)
  | ((with_reducible apply Mir.ev_enumN); exists ev_run)
  | ((with_reducible apply Mir.ev_enumS); exists ev_run)
  | ((with_reducible apply Mir.ev_zip) <;> exists ev_run)
  | ((with_reducible apply Mir.ev_lcm); exists ev_run; exists sd_run; exists wipe_run; (intro _ _; exists ev_run); intro _ _; exists ev_run)
  | ((with_reducible apply Mir.ev_lc); exists ev_run; exists sd_run; exists wipe_run; (intro _ _; exists ev_run); (intro _ _; exists ev_run); intro _ _ _; exists ev_run)
  | ((with_reducible apply Mir.ev_lcx); exists ev_run; exists sd_run; exists wipe_run; exists lcx_run)
  | ((with_reducible apply Mir.ev_lc2); exists ev_run; exists sd_run; exists wipe_run; (intro _ _; exists ev_run); (intro _ _; exists ev_run); (intro _ _; exists sd_run); (intro _ _; exists wipe_run); (intro _ _ _ _; exists ev_run); intro _ _ _ _; exists ev_run)
  | ((with_reducible apply Mir.ev_rgL); exists ev_run; exists sd_run)
  | ((with_reducible apply Mir.ev_forx); exists ev_run; exists forx_run)
  | ((with_reducible apply Mir.ev_gnm); exists wipe_run)
  | ((with_reducible apply Mir.ev_gtp); exact rfl; exists wipe_run; exists ev_run)
  | with_reducible exact Mir.ev_gnl
  | ((with_reducible apply Mir.ev_gcn) <;> exists ev_run)
  | with_reducible exact Mir.ev_pass
  | ((with_reducible apply Mir.ev_expr); exists ev_run)
  | ((with_reducible apply Mir.ev_ret); exists ev_run)
  | with_reducible exact Mir.ev_retN
  | ((with_reducible apply Mir.ev_seq) <;> exists ev_run)
  | ((with_reducible apply Mir.thn_n); exists ev_run) | with_reducible exact Mir.thn_r
  | ((with_reducible apply Mir.ev_asg) <;> exists ev_run)
  | ((with_reducible apply Mir.ev_par); exists ev_run; exists wipe_run)
  | ((with_reducible apply Mir.ev_par3); exists ev_run; exists wipe_run)
  | ((with_reducible apply Mir.ev_parG); exists ev_run; exact rfl; decide; exists ev_run)
  | ((with_reducible apply Mir.ev_sif) <;> exists ev_run)
  | ((with_reducible apply Mir.ev_isi); exists ev_run; exists ev_run; exact rfl; exists isi_run))
local macro_rules | `(tactic| exists ix_run) => `(tactic| first
  | ((with_reducible apply Mir.ixv_p); exists op_run)
  | ((with_reducible apply Mir.ixv_l); exists cell_run; exists at_run) | ((with_reducible apply Mir.ixv_v); exists cell_run; exists at_run) | ((with_reducible apply Mir.ixv_f); exists cell_run; exists op_run))
local macro_rules | `(tactic| exists at_run) => `(tactic| first | with_reducible exact Mir.atI_0 _ _ | with_reducible exact Mir.atI_1 _ _ _ | with_reducible exact Mir.atI_2 _ _ _ _ | (with_reducible apply Mir.at_ms) <;> exists sd_run | (with_reducible apply Mir.at_mn) <;> exists sd_run | (with_reducible apply Mir.at_m0) <;> exists sd_run | with_reducible assumption)
local macro_rules | `(tactic| exists fz_run) => `(tactic| first | with_reducible exact Mir.fr_p | with_reducible exact Mir.frzs_z | (with_reducible apply Mir.frzs_s) <;> exists fz_run | exact Mir.frz_fz (by exists cell_run) | exact Mir.frz_lst (by exists cell_run))
local macro_rules | `(tactic| exists wipe_run) => `(tactic| first | (focus dsimp only [Mir.wipeE, List.set, List.map]; done) | (focus dsimp only [Mir.wipeE, List.set, List.map]; with_reducible exact rfl) | with_reducible exact rfl)
local macro_rules | `(tactic| exists perm_run) => `(tactic| first | (focus simp only [Mir.permL, List.map, List.cons_append, List.nil_append, List.getD_cons_zero, List.getD_cons_succ]; done) | (focus simp only [Mir.permL, List.map, List.cons_append, List.nil_append, List.getD_cons_zero, List.getD_cons_succ]; with_reducible exact rfl))
local macro_rules | `(tactic| exists fld_run) => `(tactic| first | with_reducible assumption | apply_assumption (transparency := .reducible) only [*])
local macro_rules | `(tactic| exists def_run) => `(tactic| ((with_reducible apply Mir.ev_mkF); exact rfl; (first | (focus dsimp only [List.map, List.replicate, List.cons_append, List.nil_append]; done) | (focus dsimp only [List.map, List.replicate, List.cons_append, List.nil_append]; with_reducible exact rfl)); exists ev_run; exists end_run))
local macro_rules | `(tactic| exists end_run) => `(tactic| first | with_reducible exact Mir.end_self | with_reducible exact Mir.end_nx | with_reducible exact Mir.end_app | with_reducible exact Mir.end_nxa)
local macro_rules | `(tactic| exists fun_run) => `(tactic| (apply Eq.trans; exists def_run; first | with_reducible exact rfl | skip))
local macro_rules | `(tactic| exists lcx_run) => `(tactic| first | with_reducible exact Mir.lcx_nil | ((with_reducible apply Mir.lcx_yes); exists ev_run; exists ev_run; exists fz_run; exists lcx_run) | ((with_reducible apply Mir.lcx_s); exists ev_run; exists ev_run; (intro _; exists ev_run); exists lcx_run))
local macro_rules | `(tactic| exists dat_run) => `(tactic| first | with_reducible assumption | exact rfl)
local macro_rules | `(tactic| exists not_run) => `(tactic| first | with_reducible exact Bool.not_true | with_reducible exact Bool.not_false | with_reducible exact rfl)
local macro_rules | `(tactic| exists forx_run) => `(tactic| first | with_reducible exact Mir.forx_nil | ((with_reducible apply Mir.forx_cons); exists ev_run; exists ev_run; exists forx_run))
local macro_rules | `(tactic| exists isi_run) => `(tactic| first | ((with_reducible apply Mir.isi_t); exact rfl) | ((with_reducible apply Mir.isi_f); exact rfl))
local macro_rules | `(tactic| exists sq_run) => `(tactic| first | assumption | omega | (focus have := List.mem_range.mp (by assumption); omega))

local macro_rules | `(tactic| exists fld_run) => `(tactic| first | with_reducible exact Law.fldn_order _ _ _ _ | with_reducible exact Law.fldn_seen _ _ _ _ | with_reducible exact Law.fldn_told _ _ _ _)

namespace Mir
open L2
theorem cutP_map {A B : Type} (f : A → B) (xs : List A) (lo hi : Option Int) : cutP (xs.map f) lo hi = (cutP xs lo hi).map f := by
  unfold cutP
  rw [List.length_map, List.map_take, List.map_drop]
theorem cutP_len {A : Type} (xs : List A) (lo hi : Option Int) : (cutP xs lo hi).length ≤ xs.length := by
  unfold cutP
  rw [List.length_take, List.length_drop]
  omega
end Mir
namespace Law
open PySem L2 Mir Pl
def scrP (ns : List Int) : P := .scr (ns.map P.int)
theorem urn_of_ok {ns : List Int} (hn : ns.length ≤ 63) {t : Nat} (ht : t < 100) (S : Sto) : ∃ S', m__law_urn_of [.p (scrP ns), .p (.int (t : Int))] S = .ok (.c S.length) S' ∧ Urn S' S.length ∧ S'.length = S.length + 1 ∧ ∃ c, S' = S ++ [c] := by
  obtain ⟨cell, hcell⟩ : ∃ cell : Int, eIfM (tVal (eBin bLt (eVar 1) (eCall pLen (aCons (eVar 0) aNil)))) (eItem (eVar 0) (eVar 1)) (eC (.int 0)) [some (.p (scrP ns)), some (.p (.int (t : Int))), none, none, none, none] S = .ok (.p (.int cell)) S := by
    have e1 : tVal (eBin bLt (eVar 1) (eCall pLen (aCons (eVar 0) aNil))) [some (.p (scrP ns)), some (.p (.int (t : Int))), none, none, none, none] S = .ok (decide ((t : Int) < ((ns.length : Nat) : Int))) S := by
      have e0 : pLen [scrP ns] = some (.int ((ns.length : Nat) : Int)) := by
        unfold scrP
        rw [pLen_scr, List.length_map]
      have e2 : eCall pLen (aCons (eVar 0) aNil) [some (.p (scrP ns)), some (.p (.int (t : Int))), none, none, none, none] S = .ok (.p (.int ((ns.length : Nat) : Int))) S := eCall1_of rfl e0
      exact ev_tval (ev_bin (d := .p (.int (t : Int))) rfl e2 (rd_p _ _) (rd_p _ _) rfl)
    by_cases h : t < ns.length
    · have h2 : ((t : Int) < ((ns.length : Nat) : Int)) := by omega
      rw [decide_eq_true h2] at e1
      refine ⟨ns[t], ev_if e1 (ifK_t (ev_item (d := .p (scrP ns)) (e := .p (.int (t : Int))) rfl rfl (ixv_p ?_)))⟩
      show atI (ns.map P.int) (t : Int) = _
      refine atN ?_
      rw [List.getElem?_map, List.getElem?_eq_getElem h]
      rfl
    · have h2 : ¬ ((t : Int) < ((ns.length : Nat) : Int)) := by omega
      rw [decide_eq_false h2] at e1
      exact ⟨0, ev_if e1 (ifK_f ev_c)⟩
  have bm : ∀ i : Int, bMul 80021 i = true := fun i => bMul_l (by decide) (by decide)
  have bm2 : ∀ i : Int, bMul 26 i = true := fun i => bMul_l (by decide) (by decide)
  have bm3 : ∀ i : Int, bMul 5 i = true := fun i => bMul_l (by decide) (by decide)
  have bm4 : ∀ i : Int, bMul 66029 i = true := fun i => bMul_l (by decide) (by decide)
  have mm : ∀ i : Int, bMod i 2147483323 = true := fun i => bMod_of (by decide)
  have opm : ∀ {i j : Int}, bMul i j = true → pMul (.int i) (.int j) = some (.int (i * j)) := fun h => by rw [pMul_int, h, if_pos rfl]
  have opr : ∀ {i : Int}, pIC bMod (fun i j => i % j) (.int i) (.int 2147483323) = some (.int (i % 2147483323)) := by
    intro i
    rw [pIC_int, mm, if_pos rfl]
  have go : WS (b__law_urn_of [some (.p (scrP ns)), some (.p (.int (t : Int))), none, none, none, none] S) fun f T => ∃ a b : Int, f = .rt (.c S.length) ∧ T = S ++ [.lst [.int a, .int b, .int 0]] ∧ 0 ≤ a ∧ 0 ≤ b ∧ b < 2147483323 := by
    unfold b__law_urn_of
    have e1 : eBin pAdd (eC (.int 3001)) (eBin pMul (eC (.int 80021)) (eVar 1)) [some (.p (scrP ns)), some (.p (.int (t : Int))), none, none, none, none] S = .ok (.p (.int (3001 + 80021 * (t : Int)))) S :=
      ev_bin ev_c (ev_bin ev_c (ev_var rfl) (rd_p _ _) (rd_p _ _) (opm (bm _))) (rd_p _ _) (rd_p _ _) rfl
    refine ws_seq (ev_par (ev_acons hcell (ev_acons e1 ev_anil)) rfl) ?_
    have hi : itEnum (eSl (eVar 0) oNo (oYes (eC (.int 7)))) [some (.p (scrP ns)), some (.p (.int (t : Int))), some (.p (.int cell)), some (.p (.int (3001 + 80021 * (t : Int)))), none, none] S = .ok ((List.range (cutP ns none (some 7)).length).map fun (i : Nat) => P.tup [.int (i : Int), .int ((cutP ns none (some 7)).getD i 0)]) S := by
      have e2 : pSl none (some 7) (scrP ns) = some (.lst ((cutP ns none (some 7)).map P.int)) := by
        show some (P.lst (cutP (ns.map P.int) none (some 7))) = _
        rw [cutP_map]
      exact ev_enum_map (f := P.int) (ev_sl (d := .p (scrP ns)) rfl ev_ono (ev_oyes ev_c) (rd_p _ _) e2)
    have hl := cutP_len ns none (some 7)
    refine ws_seqW (ws_forM (us := List.range (cutP ns none (some 7)).length) (fun i ρ T => (∃ mx a4 a5, ρ = [some (.p (scrP ns)), some (.p (.int (t : Int))), some (.p (.int cell)), some (.p (.int mx)), a4, a5]) ∧ T = S) hi ⟨⟨_, _, _, rfl⟩, rfl⟩ ?_ ?_)
    · rintro i u ρ T hu ⟨⟨mx, a4, a5, rfl⟩, rfl⟩
      have hu2 : u < 63 := by
        have := List.mem_range.mp (List.mem_of_getElem? hu)
        omega
      refine ⟨_, _, rfl, ws_of (ev_asg (ev_bin (ev_call (ev_acons (ev_bin (ev_bin (ev_var rfl) (ev_bin ev_c (ev_bin ev_c (ev_var rfl) (rd_p _ _) (rd_p _ _) (opm (bm2 _))) (rd_p _ _) (rd_p _ _) rfl) (rd_p _ _) (rd_p _ _) (opm ?_)) (ev_bin ev_c (ev_var rfl) (rd_p _ _) (rd_p _ _) (opm (bm3 _))) (rd_p _ _) (rd_p _ _) rfl) ev_anil) (rds_c (rd_p _ _) (rds_nil _)) rfl) ev_c (rd_p _ _) (rd_p _ _) opr) rfl) ⟨_, .inl rfl, ⟨_, _, _, rfl⟩, rfl⟩⟩
      exact bMul_r (by omega) (by omega)
    · rintro ρ' S' ⟨⟨mx, a4, a5, rfl⟩, rfl⟩
      have hb : ∃ a : Int, 0 ≤ a ∧ eIfM (tOrM (tVal (eBin bLt (eVar 2) (eC (.int 0)))) (tVal (eBin (pIB fun i j => decide (j ≤ i)) (eVar 2) (eBin (pIC bPow fun i j => i ^ j.toNat) (eC (.int 10)) (eC (.int 17)))))) (eCall pAbs (aCons (eVar 2) aNil)) (eC (.int 0)) [some (.p (scrP ns)), some (.p (.int (t : Int))), some (.p (.int cell)), some (.p (.int mx)), a4, a5] S' = .ok (.p (.int a)) S' := by
        have et : ∃ q : Bool, tOrM (tVal (eBin bLt (eVar 2) (eC (.int 0)))) (tVal (eBin (pIB fun i j => decide (j ≤ i)) (eVar 2) (eBin (pIC bPow fun i j => i ^ j.toNat) (eC (.int 10)) (eC (.int 17))))) [some (.p (scrP ns)), some (.p (.int (t : Int))), some (.p (.int cell)), some (.p (.int mx)), a4, a5] S' = .ok q S' := by
          have x1 : tVal (eBin bLt (eVar 2) (eC (.int 0))) [some (.p (scrP ns)), some (.p (.int (t : Int))), some (.p (.int cell)), some (.p (.int mx)), a4, a5] S' = .ok (decide (cell < 0)) S' := ev_tval (ev_bin (ev_var rfl) ev_c (rd_p _ _) (rd_p _ _) rfl)
          have x2 : tVal (eBin (pIB fun i j => decide (j ≤ i)) (eVar 2) (eBin (pIC bPow fun i j => i ^ j.toNat) (eC (.int 10)) (eC (.int 17)))) [some (.p (scrP ns)), some (.p (.int (t : Int))), some (.p (.int cell)), some (.p (.int mx)), a4, a5] S' = .ok (decide ((10 : Int) ^ 17 ≤ cell)) S' :=
            ev_tval (ev_bin (ev_var rfl) (ev_bin ev_c ev_c (rd_p _ _) (rd_p _ _) (show pIC bPow (fun i j => i ^ j.toNat) (.int 10) (.int 17) = some (.int ((10 : Int) ^ 17)) from by rw [pIC_int, if_pos (by decide)]; rfl)) (rd_p _ _) (rd_p _ _) rfl)
          exact ⟨_, ev_tor x1 (orK_s fun _ => x2)⟩
        obtain ⟨q, et⟩ := et
        cases q with
        | true => exact ⟨if cell < 0 then -cell else cell, by split <;> omega, ev_if et (ifK_t (ev_call (ev_acons (ev_var rfl) ev_anil) (rds_c (rd_p _ _) (rds_nil _)) (pAbs_int _)))⟩
        | false => exact ⟨0, by decide, ev_if et (ifK_f ev_c)⟩
      obtain ⟨a, ha, hb⟩ := hb
      refine ⟨_, rfl, ws_of (ev_ret (ev_lstC (ev_acons hb (ev_acons (ev_bin (ev_call (ev_acons (ev_bin (ev_var rfl) (ev_bin ev_c (ev_var rfl) (rd_p _ _) (rd_p _ _) (opm (bm4 _))) (rd_p _ _) (rd_p _ _) rfl) ev_anil) (rds_c (rd_p _ _) (rds_nil _)) rfl) ev_c (rd_p _ _) (rd_p _ _) opr) (ev_acons ev_c ev_anil))) (frzs_s fr_p (frzs_s fr_p (frzs_s fr_p frzs_z))) (by simp))) ⟨a, _, rfl, rfl, ha, Int.emod_nonneg _ (by decide), Int.emod_lt_of_pos _ (by decide)⟩⟩
  obtain ⟨f, T, e, a, b, rfl, rfl, ha, hb0, hb1⟩ := go
  refine ⟨S ++ [.lst [.int a, .int b, .int 0]], ?_, ⟨a, b, 0, by simp, ha, hb0, hb1, by decide⟩, by simp, _, rfl⟩
  unfold m__law_urn_of
  have hk : mkK 2 4 b__law_urn_of [.p (scrP ns), .p (.int (t : Int))] S = endK S.length (b__law_urn_of [some (.p (scrP ns)), some (.p (.int (t : Int))), none, none, none, none] S) := rfl
  rw [hk, e]
  unfold endK
  dsimp only
  have h0 : (S ++ [Cell.lst [.int a, .int b, .int 0]])[S.length]? = some (.lst [.int a, .int b, .int 0]) := by simp
  rw [if_neg (by omega), h0]
  dsimp only
  rw [take_app]
theorem ev_cut {m : ME} {ρ : En} {S S1 S2 : Sto} {d : Vl} {x : P} (h : m ρ S = .ok d S1) (hf : frz d S1 = .ok x S2) : eCut m ρ S = .ok (.p x) (S2.take S.length) := by
  unfold eCut
  rw [h]
  show ((frz d S1).bind fun x S2 => Res.ok (Vl.p x) (S2.take S.length)) = _
  rw [hf]
  rfl
theorem loopU {R U : MF} {ns : List Int} (hR : ∀ S, S.length = 1 → Urn S 0 → ∃ S', R [.c 0] S = .ok (.p (.bl true)) S') (hU : ∀ (t : Nat), t < 100 → ∀ S, ∃ S', U [.p (scrP ns), .p (.int ((t : Nat) : Int))] S = .ok (.c S.length) S' ∧ Urn S' S.length ∧ S'.length = S.length + 1) :
    ∀ (l : List Nat), (∀ t ∈ l, t < 100) → lcGo (gNm 1) tsYes (eCut (eFn R (aCons (eFn U (aCons (eVar 0) (aCons (eVar 1) aNil))) aNil))) [some (.p (scrP ns)), none] (l.map fun (k : Nat) => P.int (k : Int)) [] = .ok (l.map fun _ => P.bl true) []
  | [], _ => rfl
  | t :: l, h => by
    obtain ⟨S1, e1, u1, l1⟩ := hU t (h t List.mem_cons_self) []
    obtain ⟨S2, e2⟩ := hR S1 l1 u1
    exact lcx_yes rfl (ev_cut (ev_fn (ev_acons (ev_fn (ev_acons (ev_var rfl) (ev_acons (ev_var rfl) ev_anil)) e1) ev_anil) e2) fr_p) fr_p (loopU hR hU l fun x hx => h x (List.mem_cons_of_mem _ hx))
theorem endU {R U : MF} {K : Nat} (hK : 2 ≤ K) (hK2 : K < 100) {ns : List Int} (hR : ∀ S, S.length = 1 → Urn S 0 → ∃ S', R [.c 0] S = .ok (.p (.bl true)) S') (hU : ∀ (t : Nat), t < 100 → ∀ S, ∃ S', U [.p (scrP ns), .p (.int ((t : Nat) : Int))] S = .ok (.c S.length) S' ∧ Urn S' S.length ∧ S'.length = S.length + 1) {kl : Int} (hkl : kl = (K : Int)) :
    ∃ S', mkF 1 1 (sRet (eCall pAll (aCons (eLc (itRange1 (eCall pMax2 (aCons (eC (.int 2)) (aCons (eCall pMin2 (aCons (eCall pLen (aCons (eVar 0) aNil)) (aCons (eC (.int kl)) aNil))) aNil)))) [1] (gNm 1) tsYes (eCut (eFn R (aCons (eFn U (aCons (eVar 0) (aCons (eVar 1) aNil))) aNil)))) aNil))) [.p (scrP ns)] [] = .ok (.p (.bl true)) S' := by
  have e0 : pLen [scrP ns] = some (.int ((ns.length : Nat) : Int)) := by
    unfold scrP
    rw [pLen_scr, List.length_map]
  let n : Nat := max 2 (min ns.length K)
  have hr : itRange1 (eCall pMax2 (aCons (eC (.int 2)) (aCons (eCall pMin2 (aCons (eCall pLen (aCons (eVar 0) aNil)) (aCons (eC (.int kl)) aNil))) aNil))) [some (.p (scrP ns)), none] [] = .ok ((List.range n).map fun (k : Nat) => P.int (k : Int)) [] := by
    refine ev_range1i (i := ((n : Nat) : Int)) ?_ rfl (by omega)
    have e1 : pMax2 [.int 2, .int (if kl < ((ns.length : Nat) : Int) then kl else ((ns.length : Nat) : Int))] = some (.int ((n : Nat) : Int)) := by
      show some (P.int (if (if kl < ((ns.length : Nat) : Int) then kl else ((ns.length : Nat) : Int)) > 2 then (if kl < ((ns.length : Nat) : Int) then kl else ((ns.length : Nat) : Int)) else 2)) = _
      congr 2
      subst hkl
      split <;> split <;> omega
    exact ev_call (ev_acons ev_c (ev_acons (ev_call (ev_acons (ev_call (ev_acons (ev_var rfl) ev_anil) (rds_c (rd_p _ _) (rds_nil _)) e0) (ev_acons ev_c ev_anil)) (rds_c (rd_p _ _) (rds_c (rd_p _ _) (rds_nil _))) rfl) ev_anil)) (rds_c (rd_p _ _) (rds_c (rd_p _ _) (rds_nil _))) e1
  have e := loopU (R := R) (U := U) hR hU (List.range n) fun t ht => by
    have := List.mem_range.mp ht
    omega
  refine ⟨[], ev_mkF rfl rfl (ev_ret (ev_call (ev_acons (ev_lcx hr (by rw [List.length_map, List.length_range]; omega) rfl e) ev_anil) (rds_c (rd_p _ _) (rds_nil _)) op_all)) ?_⟩
  rw [endF_p]
  simp

theorem right_ok {S : Sto} (hl : S.length = 1) (hu : Urn S 0) : ∃ S', m__law_right [.c 0] S = .ok (.p (.bl true)) S' := by
  obtain ⟨o, S1, e1, ho, u1⟩ := pick_ok (xs := oddsP) hu (by decide) (by decide)
  obtain ⟨m, S2, e2, hm, u2⟩ := pick_ok (xs := matesP) u1.urn (by decide) (by decide)
  have l2 : S2.length = 1 := u2.len.trans (u1.len.trans hl)
  obtain ⟨c, rfl⟩ : ∃ c, S2 = [c] := by
    match S2, l2 with
    | [c], _ => exact ⟨c, rfl⟩
  obtain ⟨S3, e3⟩ := retT_ok (q_all c o ho m hm)
  refine ⟨S3.take S.length, ?_⟩
  unfold m__law_right
  refine ev_mkF (S1 := S3) (f := .rt (.p (.bl true))) rfl rfl ?_ (endF_p _ _ _)
  show sSeq (sAsg (eFn m__law_pick (aCons (eVar 0) (aCons (eLst (aCons (eC .non) (aCons (eC (.int 0)) (aCons (eC (.bl true)) (aCons (eC (.str [120])) (aCons (eTup (aCons (eC (.int 1)) (aCons (eC (.str [121])) aNil))) (aCons (eLst (aCons (eC (.int 2)) aNil)) (aCons eDct0 (aCons (eBin (pIC bPow fun i j => i ^ j.toNat) (eC (.int 10)) (eC (.int 59))) (aCons (eTup aNil) (aCons (eUn pNeg (eC (.int 4))) aNil))))))))))) aNil))) (gNm 1)) (sSeq (sAsg (eFn m__law_pick (aCons (eVar 0) (aCons (eLst (aCons (eC .non) (aCons (eC (.int 1)) (aCons (eC (.str [122])) (aCons (eTup (aCons (eTup aNil) aNil)) (aCons (eC (.bl false)) aNil)))))) aNil))) (gNm 2)) rest_r) ([some (.c 0)] ++ List.replicate 13 none) S = _
  have f1 : eFn m__law_pick (aCons (eVar 0) (aCons (eLst (aCons (eC .non) (aCons (eC (.int 0)) (aCons (eC (.bl true)) (aCons (eC (.str [120])) (aCons (eTup (aCons (eC (.int 1)) (aCons (eC (.str [121])) aNil))) (aCons (eLst (aCons (eC (.int 2)) aNil)) (aCons eDct0 (aCons (eBin (pIC bPow fun i j => i ^ j.toNat) (eC (.int 10)) (eC (.int 59))) (aCons (eTup aNil) (aCons (eUn pNeg (eC (.int 4))) aNil))))))))))) aNil)) ([some (.c 0)] ++ List.replicate 13 none) S = .ok (.p o) S1 := by
    refine ev_fn (ds := [.c 0, .p (.lst oddsP)]) (ev_acons (ev_var rfl) (ev_acons ?_ ev_anil)) e1
    rfl
  have f2 : eFn m__law_pick (aCons (eVar 0) (aCons (eLst (aCons (eC .non) (aCons (eC (.int 1)) (aCons (eC (.str [122])) (aCons (eTup (aCons (eTup aNil) aNil)) (aCons (eC (.bl false)) aNil)))))) aNil)) ([some (.c 0), some (.p o)] ++ List.replicate 12 none) S1 = .ok (.p m) [c] := by
    refine ev_fn (ds := [.c 0, .p (.lst matesP)]) (ev_acons (ev_var rfl) (ev_acons ?_ ev_anil)) e2
    rfl
  exact ev_seqN (ev_asg f1 rfl) (ev_seqN (ev_asg f2 rfl) e3)
end Law

namespace Law
open PySem L2 Mir Pl
theorem all_ok (ns : List Int) (hn : ns.length ≤ 63) : ∃ S', m_law [.p (.scr (ns.map Mir.P.int))] [] = .ok (.p (.bl true)) S' := by
  unfold m_law b_law
  exact endU (K := 5) (by decide) (by decide) (fun S hl hu => right_ok hl hu) (fun t ht S => let ⟨S', e, u, l, _⟩ := urn_of_ok hn ht S; ⟨S', e, u, l⟩) rfl
end Law
open PySem PySem.W PyProof.Rows
theorem PySem.Challenge.cw_closedinner_k01_errors_and_limits_holds : PySem.Challenge.rw_closedinner_k01_errors_and_limits.Holds := by
  exact law_of Law.all_ok

