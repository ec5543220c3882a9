import PyProof.Rows.All
import Wide.All
import OpenK.AllK
import Wide.FinOn
import KE.KStateDown
import KE.KeyNested
import KE.KDictCopyH
import HandS.ForMost
import HandS.Exc
import HandS.TryOnly
import HandS.ExcOwn
import HandS.Lambda
import HandS.WordsExc
import HandS.Evl
import HandS.Defaults
import HandS.Head0
import HandS.Head1
import HandS.Head2
import HandS.HeadEnd
import HandS.HeadHook1
import HandS.HeadHook2
import HandS.HeadHook3
import HandS.HeadHook4
import HandS.TupAny
import HandS.Style
import HandS.SortInts
import HandS.RaiseMore
import HandS.WideBits
import HandS.SetFor
import HandS.ReplaceList
import HandS.CallSlots
import HandS.Property
import HandS.IsInst
import HandS.Ends
import PyProof.ReprRoads
import HandS.Dict
import HandS.Deep
import HandS.Conv
import HandS.FStr
import HandS.Star
import KE.GoesMore
import HandS.Strs
import HandS.Replace
import KE.GoesZip
import PyProof.WalkInts
import HandS.NoneIn
import PyProof.InstNe
import KE.SortData
import KE.KCallOwn
import KE.KIsAll
import HandS.SetKeys
import HandS.ExcInit
import HandS.ExcField
import HandS.ExcIs
import HandS.TryMany
import KE.KExcInit
import PyProof.ExcBaseAll.LookupError
import PyProof.ExcBaseAll.ArithmeticError
import PyProof.ExcBaseAll.ValueError
import HandS.HotCalls
import PyProof.StrOps2
import HandS.DictSubView
import PyProof.SeqIndex
import PyProof.InstEq
import HandS.Records
import HandS.ReplaceLit
import PyProof.ToksMono
import PyProof.NsMap
import KE.IntBitsLaws
import KE.OsArith
import KE.BitLaws
import PySem.Challenge.RW_closedinner_k17_whole_sets_made_by_words
set_option Elab.async false
set_option linter.all false
set_option maxRecDepth 100000
set_option maxHeartbeats 0

namespace Mir
open PySem L2

inductive P where
  | non | bl (b : Bool) | int (i : Int) | str (x : List Nat)
  | tup (xs : List P) | lst (xs : List P)
  | dct (ks vs : List P)
  | obj (c : Str) (ns : List Str) (xs : List P)
  | ty (n : String) | glo (x : Str)
  | raw (a : Addr)
  | rwp (y z : List Nat)
  | scr (xs : List P)
inductive Vl where
  | p (x : P) | c (k : Nat)
def lamC (K : PySem.W.Frag) (x : Str) : Addr := match K.lookup (He.ga K x) with
  | some ⟨_, _, .func fd, _⟩ => (match fd.code with
    | .ref c => c
    | _ => 0)
  | _ => 0
def lamT (K : PySem.W.Frag) (x : Str) : Addr := He.tabOf K (lamC K x)
inductive Cell where
  | lst (xs : List P)
  | lsv (xs : List Vl)
  | dct (ks vs : List P)
  | ins (c : Str) (ns : List Str) (xs : List Vl)
  | fz (x : P) | res
  | tup (xs : List P)
  | dcT (ks : List (List (Int ⊕ List Nat))) (xs : List P)
  | dcN (η : NestedKey → Int) (ks xs : List P)
  | tbl (x q : Str)
  | dvs (xs : List P)
  | tblC (x q : Str) (c : Addr)
  | tpz (xs : List P)
abbrev Sto := List Cell
abbrev XD := Option (List Str × List P)
inductive Res (A : Type) where
  | ok (a : A) (S : Sto)
  | exc (c : Str) (d : XD) (S : Sto)
  | bad
def Res.bind {A B : Type} (r : Res A) (f : A → Sto → Res B) : Res B := match r with
  | .ok a S => f a S
  | .exc c d S => .exc c d S
  | .bad => .bad
abbrev En := List (Option Vl)
abbrev ME := En → Sto → Res Vl

def strOf (x : List Nat) : Str := ⟨x.toArray⟩
def kk : Int ⊕ List Nat → Key
  | .inl i => .inl i
  | .inr x => .inr (strOf x)

mutual
def nkOf : P → Option NestedKey
  | .non => some .none
  | .bl b => some (.num (if b then 1 else 0))
  | .int i => some (.num i)
  | .str x => some (.text (strOf x))
  | .tup xs => (match nkL xs with
    | some ks => some (.tup ks)
    | none => none)
  | _ => none
def nkL : List P → Option (List NestedKey)
  | [] => some []
  | x :: xs => (match nkOf x, nkL xs with
    | some k, some ks => some (k :: ks)
    | _, _ => none)
end
def DNo (η : NestedKey → Int) (a : Addr) (es : List (NestedKey × Addr × V)) : HO := .ext fun h => es.length ≤ sizeLine ∧ (a == sysModules) = false ∧ ∃ xs : List (NestedKey × Addr × Value),
  Paired (fun (p : NestedKey × Addr × V) (q : NestedKey × Addr × Value) => p.1 = q.1 ∧ p.2.1 = q.2.1 ∧ RelV p.2.2 q.2.2) es xs ∧
  ∃ ds ep, h.DictRaw a ds ep ∧ ds.toList = xs.map (fun x => (⟨η x.1, .ref x.2.1, x.2.2⟩ : DictEntry)) ∧ (xs.map (·.1)).Nodup ∧ ∀ x ∈ xs, x.1.depth ≤ 8
def RawT (K : PySem.W.Frag) (H : Hp) (a : Addr) (y z : Str) (t u : Tok) : Prop :=
  (∃ (o : Obj) (n : Nat), (H a = some (.frz o (.tup [.str y, .str z])) ∨ K.lookup a = some o) ∧ o.cls = .type "tuple" ∧ o.data = .seq #[.str y t, .str z u] n) ∧ t ≠ 0 ∧ u ≠ 0 ∧ t ≠ u ∧ (y == z) = false
mutual
def Rep (K : PySem.W.Frag) (F : Hp) : P → V → Prop
  | .non, v => v = .non
  | .bl b, v => v = .bl b
  | .int i, v => v = .int i
  | .str x, v => v = .str (strOf x)
  | .tup xs, v => ∃ a vs, v = .ref a ∧ SqT K F a vs ∧ RepL K F xs vs
  | .lst xs, v => ∃ a vs, v = .ref a ∧ F a = some (.lst vs) ∧ RepL K F xs vs
  | .scr xs, v => ∃ a vs, v = .ref a ∧ SqL K F a vs ∧ RepL K F xs vs
  | .dct ks xs, v => ∃ a kvs, v = .ref a ∧ F a = some (.dK kvs) ∧ RepL K F ks (kvs.map fun q => kV q.1) ∧ RepL K F xs (kvs.map (·.2))
  | .obj c ns xs, v => ∃ a dx gs, v = .ref a ∧ F a = some (.ins (He.ga K c) dx gs) ∧ gs.map (·.1) = ns ∧ RepL K F xs (gs.map (·.2))
  | .ty n, v => v = .ty n
  | .glo x, v => v = .ref (He.ga K x)
  | .raw a, v => v = .ref a
  | .rwp y z, v => ∃ a t u, v = .ref a ∧ RawT K F a (strOf y) (strOf z) t u
def RepL (K : PySem.W.Frag) (F : Hp) : List P → List V → Prop
  | [], vs => vs = []
  | x :: xs, vs => ∃ v r, vs = v :: r ∧ Rep K F x v ∧ RepL K F xs r
end

section
variable {K : PySem.W.Frag} {F F' : Hp}
theorem sqt_mono {a : Addr} {vs : List V} (e : Same F F') (h : SqT K F a vs) : SqT K F' a vs := Evl.ex_t e h
theorem sql_mono {a : Addr} {vs : List V} (e : Same F F') (h : SqL K F a vs) : SqL K F' a vs := Evl.ex_l e h
mutual
theorem Rep.mono (e : Same F F') : ∀ {x : P} {v : V}, Rep K F x v → Rep K F' x v
  | .non, _, h => h
  | .bl _, _, h => h
  | .int _, _, h => h
  | .str _, _, h => h
  | .tup xs, v, h => by
    obtain ⟨a, vs, e1, h1, h2⟩ := h
    exact ⟨a, vs, e1, sqt_mono e h1, RepL.mono e h2⟩
  | .lst xs, v, h => by
    obtain ⟨a, vs, e1, h1, h2⟩ := h
    exact ⟨a, vs, e1, e _ _ h1, RepL.mono e h2⟩
  | .scr xs, v, h => by
    obtain ⟨a, vs, e1, h1, h2⟩ := h
    exact ⟨a, vs, e1, sql_mono e h1, RepL.mono e h2⟩
  | .dct ks xs, v, h => by
    obtain ⟨a, kvs, e1, h1, h2, h3⟩ := h
    exact ⟨a, kvs, e1, e _ _ h1, RepL.mono e h2, RepL.mono e h3⟩
  | .obj c ns xs, v, h => by
    obtain ⟨a, dx, gs, e1, h1, h2, h3⟩ := h
    exact ⟨a, dx, gs, e1, e _ _ h1, h2, RepL.mono e h3⟩
  | .ty _, _, h => h
  | .glo _, _, h => h
  | .raw _, _, h => h
  | .rwp y z, v, h => by
    obtain ⟨a, t, u, e1, ⟨o, n, h1, h2, h3⟩, h4⟩ := h
    exact ⟨a, t, u, e1, ⟨o, n, h1.imp (e _ _) id, h2, h3⟩, h4⟩
theorem RepL.mono (e : Same F F') : ∀ {xs : List P} {vs : List V}, RepL K F xs vs → RepL K F' xs vs
  | [], _, h => h
  | x :: xs, vs, h => by
    obtain ⟨v, r, e1, h1, h2⟩ := h
    exact ⟨v, r, e1, Rep.mono e h1, RepL.mono e h2⟩
end
theorem RepL.length : ∀ {xs : List P} {vs : List V}, RepL K F xs vs → vs.length = xs.length
  | [], _, h => by
    have h' : _ = _ := h
    rw [h']
    rfl
  | x :: xs, vs, h => by
    obtain ⟨v, r, e1, h1, h2⟩ := h
    rw [e1, List.length_cons, List.length_cons, RepL.length h2]
theorem RepL.get : ∀ {xs : List P} {vs : List V} {i : Nat} {x : P}, RepL K F xs vs → xs[i]? = some x → ∃ v, vs[i]? = some v ∧ Rep K F x v
  | [], _, _, _, h, e => by simp at e
  | y :: xs, vs, 0, x, h, e => by
    obtain ⟨v, r, e1, h1, h2⟩ := h
    have : y = x := by simpa using e
    subst this
    subst e1
    exact ⟨v, rfl, h1⟩
  | y :: xs, vs, i + 1, x, h, e => by
    obtain ⟨v, r, e1, h1, h2⟩ := h
    subst e1
    obtain ⟨u, hu, hr⟩ := RepL.get (i := i) h2 (by simpa using e)
    exact ⟨u, by simpa using hu, hr⟩
theorem RepL.getV : ∀ {xs : List P} {vs : List V} {i : Nat} {v : V}, RepL K F xs vs → vs[i]? = some v → ∃ x, xs[i]? = some x ∧ Rep K F x v := fun {xs vs i v} h e => by
  have hl := RepL.length h
  have hi : i < xs.length := by
    rw [← hl]
    exact (List.getElem?_eq_some_iff.mp e).1
  obtain ⟨u, hu, hr⟩ := RepL.get (i := i) (x := xs[i]) h (by simp [hi])
  rw [e] at hu
  cases hu
  exact ⟨xs[i], by simp [hi], hr⟩
theorem RepL.nil : RepL K F [] [] := rfl
theorem RepL.cons {x : P} {xs : List P} {v : V} {vs : List V} (h : Rep K F x v) (t : RepL K F xs vs) : RepL K F (x :: xs) (v :: vs) := ⟨v, vs, rfl, h, t⟩
theorem RepL.append : ∀ {xs ys : List P} {vs ws : List V}, RepL K F xs vs → RepL K F ys ws → RepL K F (xs ++ ys) (vs ++ ws)
  | [], _, _, _, h, t => by
    have h' : _ = _ := h
    subst h'
    exact t
  | x :: xs, ys, vs, ws, h, t => by
    obtain ⟨v, r, e1, h1, h2⟩ := h
    subst e1
    exact ⟨v, r ++ ws, rfl, h1, RepL.append h2 t⟩
theorem RepL.take : ∀ {xs : List P} {vs : List V} (n : Nat), RepL K F xs vs → RepL K F (xs.take n) (vs.take n)
  | [], vs, n, h => by
    have h' : _ = _ := h
    subst h'
    simp only [List.take_nil]
    exact .nil
  | x :: xs, vs, 0, h => by
    simp only [List.take_zero]
    exact .nil
  | x :: xs, vs, n + 1, h => by
    obtain ⟨v, r, e1, h1, h2⟩ := h
    subst e1
    exact ⟨v, r.take n, rfl, h1, RepL.take n h2⟩
theorem RepL.drop : ∀ {xs : List P} {vs : List V} (n : Nat), RepL K F xs vs → RepL K F (xs.drop n) (vs.drop n)
  | [], vs, n, h => by
    have h' : _ = _ := h
    subst h'
    simp only [List.drop_nil]
    exact .nil
  | x :: xs, vs, 0, h => h
  | x :: xs, vs, n + 1, h => by
    obtain ⟨v, r, e1, h1, h2⟩ := h
    subst e1
    exact RepL.drop n h2
theorem RepL.reverse {xs : List P} {vs : List V} (h : RepL K F xs vs) : RepL K F xs.reverse vs.reverse := by
  induction xs generalizing vs with
  | nil =>
    have h' : _ = _ := h
    subst h'
    exact .nil
  | cons x xs ih =>
    obtain ⟨v, r, e1, h1, h2⟩ := h
    subst e1
    simp only [List.reverse_cons]
    exact (ih h2).append (.cons h1 .nil)
theorem RepL.set : ∀ {xs : List P} {vs : List V} {x : P} {v : V} (i : Nat), RepL K F xs vs → Rep K F x v → RepL K F (xs.set i x) (vs.set i v)
  | [], _, _, _, _, h, _ => by
    have h' : _ = _ := h
    subst h'
    exact .nil
  | y :: xs, vs, x, v, 0, h, hx => by
    obtain ⟨u, r, e1, h1, h2⟩ := h
    subst e1
    exact ⟨v, r, rfl, hx, h2⟩
  | y :: xs, vs, x, v, i + 1, h, hx => by
    obtain ⟨u, r, e1, h1, h2⟩ := h
    subst e1
    exact ⟨u, r.set i v, rfl, h1, RepL.set i h2 hx⟩
theorem RepL.dropLast {xs : List P} {vs : List V} (h : RepL K F xs vs) : RepL K F xs.dropLast vs.dropLast := by
  rw [List.dropLast_eq_take, List.dropLast_eq_take, h.length]
  exact h.take _
theorem RepL.eraseIdx : ∀ {xs : List P} {vs : List V} (i : Nat), RepL K F xs vs → RepL K F (xs.eraseIdx i) (vs.eraseIdx i)
  | [], _, _, h => by
    have h' : _ = _ := h
    subst h'
    exact .nil
  | y :: xs, vs, 0, h => by
    obtain ⟨u, r, e1, h1, h2⟩ := h
    subst e1
    exact h2
  | y :: xs, vs, i + 1, h => by
    obtain ⟨u, r, e1, h1, h2⟩ := h
    subst e1
    exact ⟨u, r.eraseIdx i, rfl, h1, RepL.eraseIdx i h2⟩
theorem RepL.replicate {x : P} {v : V} (h : Rep K F x v) : ∀ n, RepL K F (List.replicate n x) (List.replicate n v)
  | 0 => .nil
  | n + 1 => ⟨v, _, rfl, h, RepL.replicate h n⟩
end

abbrev Io := List (Option Addr)
def RepV (K : PySem.W.Frag) (io : Io) (F : Hp) : Vl → V → Prop
  | .p x, v => Rep K F x v
  | .c k, v => ∃ a, io[k]? = some (some a) ∧ v = .ref a
def RepVs (K : PySem.W.Frag) (io : Io) (F : Hp) : List Vl → List V → Prop
  | [], vs => vs = []
  | x :: xs, vs => ∃ v r, vs = v :: r ∧ RepV K io F x v ∧ RepVs K io F xs r
def CellAt (K : PySem.W.Frag) (io : Io) (F H : Hp) (k : Nat) : Cell → Prop
  | .lst xs => ∃ a vs, io[k]? = some (some a) ∧ F a = none ∧ H a = some (.lst vs) ∧ RepL K F xs vs
  | .lsv xs => ∃ a vs, io[k]? = some (some a) ∧ F a = none ∧ H a = some (.lst vs) ∧ RepVs K io F xs vs ∧ ∀ j, Vl.c j ∈ xs → j < k
  | .dct ks xs => ∃ a kvs, io[k]? = some (some a) ∧ F a = none ∧ H a = some (.dK kvs) ∧ RepL K F ks (kvs.map fun q => kV q.1) ∧ RepL K F xs (kvs.map (·.2))
  | .ins c ns xs => ∃ a dx gs, io[k]? = some (some a) ∧ F a = none ∧ H a = some (.ins (He.ga K c) dx gs) ∧ gs.map (·.1) = ns ∧ RepVs K io F xs (gs.map (·.2)) ∧ ∀ j, Vl.c j ∈ xs → j < k
  | .fz x => ∃ a, io[k]? = some (some a) ∧ Rep K F x (.ref a)
  | .res => io[k]? = some none
  | .tup xs => ∃ a vs, io[k]? = some (some a) ∧ F a = some (.tup vs) ∧ RepL K F xs vs
  | .tpz xs => ∃ a vs o, io[k]? = some (some a) ∧ F a = some (.frz o (.tup vs)) ∧ o.cls = .type "tuple" ∧ o.dict = none ∧ RepL K F xs vs
  | .dcT ks xs => ∃ a ws, io[k]? = some (some a) ∧ F a = none ∧ H a = some (.dT ((ks.map (List.map kk)).zip ws)) ∧ ks.length = ws.length ∧ RepL K F xs ws
  | .dcN η ks xs => ∃ a es, io[k]? = some (some a) ∧ F a = none ∧ H a = some (DNo η a es) ∧ nkL ks = some (es.map (·.1)) ∧ RepL K F ks (es.map fun e => V.ref e.2.1) ∧ RepL K F xs (es.map (·.2.2))
  | .tbl x q => io[k]? = some (some (lamT K x)) ∧ F (lamT K x) = none ∧ ∃ ps : Array Value, H (lamT K x) = some (.tbl ps) ∧ TriplesOk ps.toList ∧ ∀ (pos : Pos) (cv : Value), codeAmong pos ps.toList = some cv → ∃ c, cv = .ref c ∧ F c = some (LamX.CodeO c q)
  | .dvs xs => ∃ a o η es, io[k]? = some (some a) ∧ F a = some (.frz o (DNo η a es)) ∧ RepL K F xs (es.map (·.2.2))
  | .tblC x q c => (io[k]? = some (some (lamT K x)) ∧ F (lamT K x) = none ∧ ∃ ps : Array Value, H (lamT K x) = some (.tbl ps) ∧ TriplesOk ps.toList ∧ ∀ (pos : Pos) (cv : Value), codeAmong pos ps.toList = some cv → ∃ c, cv = .ref c ∧ F c = some (LamX.CodeO c q)) ∧ F c = some (LamX.CodeO c q)
structure Sta (K : PySem.W.Frag) (io : Io) (F : Hp) (S : Sto) (H : Hp) : Prop where
  len : io.length = S.length
  inj : ∀ (j k : Nat) (a : Addr), io[j]? = some (some a) → io[k]? = some (some a) → j = k
  sub : Same F H
  trk : ∀ (k : Nat) (a : Addr), io[k]? = some (some a) → H a ≠ none
  cel : ∀ (k : Nat) (c : Cell), S[k]? = some c → CellAt K io F H k c
structure Nxt (io : Io) (F H : Hp) (io' : Io) (F' H' : Hp) : Prop where
  han : ∀ (k : Nat) (a : Addr), io[k]? = some (some a) → io'[k]? = some (some a)
  fr : Same F F'
  out : ∀ (a : Addr) (o : HO), H a = some o → (∀ k : Nat, io[k]? ≠ some (some a)) → H' a = some o
  new : ∀ (k : Nat) (a : Addr), io'[k]? = some (some a) → io[k]? = some (some a) ∨ H a = none
  stay : ∀ a : Addr, H' a = none → H a = none
  nf : ∀ a : Addr, F' a ≠ none → F a ≠ none ∨ H a = none ∨ ∃ k : Nat, io[k]? = some (some a)
section
variable {K : PySem.W.Frag} {io io1 io2 : Io} {F F1 F2 H H1 H2 : Hp} {S : Sto}
theorem Nxt.refl : Nxt io F H io F H := ⟨fun _ _ h => h, fun _ _ h => h, fun _ _ h _ => h, fun _ _ h => .inl h, fun _ h => h, fun _ h => .inl h⟩
theorem Nxt.trans (a : Nxt io F H io1 F1 H1) (b : Nxt io1 F1 H1 io2 F2 H2) : Nxt io F H io2 F2 H2 where
  han := fun k x h => b.han k x (a.han k x h)
  fr := a.fr.trans b.fr
  out := fun x o h n => b.out x o (a.out x o h n) fun k e => by
    rcases a.new k x e with q | q
    · exact n k q
    · rw [h] at q; cases q
  new := fun k x h => by
    rcases b.new k x h with q | q
    · exact a.new k x q
    · exact .inr (a.stay x q)
  stay := fun x h => a.stay x (b.stay x h)
  nf := fun x h => by
    rcases b.nf x h with q | q | ⟨k, q⟩
    · exact a.nf x q
    · exact .inr (.inl (a.stay x q))
    · rcases a.new k x q with z | z
      · exact .inr (.inr ⟨k, z⟩)
      · exact .inr (.inl z)
theorem RepV.mono {io' : Io} {F' : Hp} (hi : ∀ (k : Nat) (a : Addr), io[k]? = some (some a) → io'[k]? = some (some a)) (e : Same F F') : ∀ {d : Vl} {v : V}, RepV K io F d v → RepV K io' F' d v
  | .p _, _, h => Rep.mono e h
  | .c k, _, ⟨a, h, r⟩ => ⟨a, hi k a h, r⟩
theorem RepVs.mono {io' : Io} {F' : Hp} (hi : ∀ (k : Nat) (a : Addr), io[k]? = some (some a) → io'[k]? = some (some a)) (e : Same F F') : ∀ {ds : List Vl} {vs : List V}, RepVs K io F ds vs → RepVs K io' F' ds vs
  | [], _, h => h
  | d :: ds, _, ⟨v, r, e1, h1, h2⟩ => ⟨v, r, e1, RepV.mono hi e h1, RepVs.mono hi e h2⟩
theorem RepVs.length : ∀ {xs : List Vl} {vs : List V}, RepVs K io F xs vs → vs.length = xs.length
  | [], _, h => by
    have h' : _ = _ := h
    rw [h']
    rfl
  | x :: xs, vs, h => by
    obtain ⟨v, r, e1, h1, h2⟩ := h
    rw [e1, List.length_cons, List.length_cons, RepVs.length h2]
theorem RepVs.get : ∀ {xs : List Vl} {vs : List V} {i : Nat} {x : Vl}, RepVs K io F xs vs → xs[i]? = some x → ∃ v, vs[i]? = some v ∧ RepV K io F x v
  | [], _, _, _, h, e => by simp at e
  | y :: xs, vs, 0, x, h, e => by
    obtain ⟨v, r, e1, h1, h2⟩ := h
    have : y = x := by simpa using e
    subst this
    subst e1
    exact ⟨v, rfl, h1⟩
  | y :: xs, vs, i + 1, x, h, e => by
    obtain ⟨v, r, e1, h1, h2⟩ := h
    subst e1
    obtain ⟨u, hu, hr⟩ := RepVs.get (i := i) h2 (by simpa using e)
    exact ⟨u, by simpa using hu, hr⟩
theorem RepVs.pure : ∀ {xs : List P} {vs : List V}, RepVs K io F (xs.map Vl.p) vs ↔ RepL K F xs vs
  | [], _ => Iff.rfl
  | x :: xs, vs => by
    constructor
    · rintro ⟨v, r, e1, h1, h2⟩
      exact ⟨v, r, e1, h1, RepVs.pure.mp h2⟩
    · rintro ⟨v, r, e1, h1, h2⟩
      exact ⟨v, r, e1, h1, RepVs.pure.mpr h2⟩

def rd (S : Sto) : Vl → Option P
  | .p x => some x
  | .c k => match S[k]? with
    | some (.lst xs) => some (.lst xs)
    | some (.dct ks xs) => some (.dct ks xs)
    | some (.fz x) => some x
    | some (.tup xs) => some (.tup xs)
    | some (.tpz xs) => some (.tup xs)
    | _ => none
def RepR (K : PySem.W.Frag) (F H : Hp) : P → V → Prop
  | .lst xs, v => ∃ a vs, v = .ref a ∧ H a = some (.lst vs) ∧ RepL K F xs vs
  | .dct ks xs, v => ∃ a kvs, v = .ref a ∧ H a = some (.dK kvs) ∧ RepL K F ks (kvs.map fun q => kV q.1) ∧ RepL K F xs (kvs.map (·.2))
  | x, v => Rep K F x v
theorem Rep.r (e : Same F H) {x : P} {v : V} (h : Rep K F x v) : RepR K F H x v := by
  cases x with
  | lst xs =>
    obtain ⟨a, vs, e1, h1, h2⟩ := h
    exact ⟨a, vs, e1, e _ _ h1, h2⟩
  | dct ks xs =>
    obtain ⟨a, kvs, e1, h1, h2, h3⟩ := h
    exact ⟨a, kvs, e1, e _ _ h1, h2, h3⟩
  | _ => exact h
theorem RepR.now (e : Same F H) {x : P} {v : V} (h : RepR K F H x v) : Rep K H x v := by
  cases x with
  | lst xs =>
    obtain ⟨a, vs, e1, h1, h2⟩ := h
    exact ⟨a, vs, e1, h1, RepL.mono e h2⟩
  | dct ks xs =>
    obtain ⟨a, kvs, e1, h1, h2, h3⟩ := h
    exact ⟨a, kvs, e1, h1, RepL.mono e h2, RepL.mono e h3⟩
  | non => exact h
  | bl _ => exact h
  | int _ => exact h
  | str _ => exact h
  | tup _ => exact Rep.mono e (x := .tup _) h
  | obj _ _ _ => exact Rep.mono e (x := .obj _ _ _) h
  | ty _ => exact h
  | glo _ => exact h
  | raw _ => exact h
  | rwp _ _ => exact Rep.mono e (x := .rwp _ _) h
  | scr _ => exact Rep.mono e (x := .scr _) h
theorem Sta.rd (st : Sta K io F S H) {d : Vl} {v : V} {x : P} (h : RepV K io F d v) (e : rd S d = some x) : RepR K F H x v := by
  cases d with
  | p y =>
    have e' : y = x := Option.some.inj e
    subst e'
    exact Rep.r st.sub h
  | c k =>
    obtain ⟨a, ha, rfl⟩ := h
    have e : (match S[k]? with
      | some (.lst xs) => some (P.lst xs)
      | some (.dct ks xs) => some (P.dct ks xs)
      | some (.fz x) => some x
      | some (.tup xs) => some (P.tup xs)
      | some (.tpz xs) => some (P.tup xs)
      | _ => none) = some x := e
    cases hk : S[k]? with
    | none => rw [hk] at e; cases e
    | some c =>
      rw [hk] at e
      cases c with
      | lst xs =>
        have e' : P.lst xs = x := Option.some.inj e
        subst e'
        obtain ⟨b, vs, hb, _, hH, hr⟩ := st.cel k _ hk
        rw [ha] at hb
        cases hb
        exact ⟨a, vs, rfl, hH, hr⟩
      | dct ks xs =>
        have e' : P.dct ks xs = x := Option.some.inj e
        subst e'
        obtain ⟨b, vs, hb, _, hH, hr, hr2⟩ := st.cel k _ hk
        rw [ha] at hb
        cases hb
        exact ⟨a, vs, rfl, hH, hr, hr2⟩
      | fz y =>
        have e' : y = x := Option.some.inj e
        subst e'
        obtain ⟨b, hb, hr⟩ := st.cel k _ hk
        rw [ha] at hb
        cases hb
        exact Rep.r st.sub hr
      | tup xs =>
        have e' : P.tup xs = x := Option.some.inj e
        subst e'
        obtain ⟨b, vs, hb, hF, hr⟩ := st.cel k _ hk
        rw [ha] at hb
        cases hb
        exact ⟨a, vs, rfl, SqT.of hF, hr⟩
      | tpz xs =>
        have e' : P.tup xs = x := Option.some.inj e
        subst e'
        obtain ⟨b, vs, o, hb, hF, _, _, hr⟩ := st.cel k _ hk
        rw [ha] at hb
        cases hb
        exact ⟨a, vs, rfl, .inl (.inr ⟨o, hF⟩), hr⟩
      | _ => cases e
theorem upd_same_of {p : Addr} {o : HO} (hp : H p = none) : Same H (upd H p o) := fun b u e => by
  rw [upd_ne (ne_of_none e hp)]
  exact e
theorem app_none {io T : Io} {k : Nat} (z : io[k]? = some none) : (io ++ T)[k]? = some none := by
  rw [List.getElem?_append_left (List.getElem?_eq_some_iff.mp z).1]
  exact z
theorem CellAt.mono {io' : Io} {F' : Hp} {k : Nat} {c : Cell} (hi : ∀ (k : Nat) (a : Addr), io[k]? = some (some a) → io'[k]? = some (some a)) (hF : Same F F')
    (hn : ∀ a, io[k]? = some (some a) → F a = none → F' a = none) (hH : ∀ a o, io[k]? = some (some a) → H a = some o → H1 a = some o) (h : CellAt K io F H k c) (hres : io[k]? = some none → io'[k]? = some none := by first | exact fun z => z | exact fun z => app_none z) : CellAt K io' F' H1 k c := by
  cases c with
  | lst xs =>
    obtain ⟨a, vs, h1, h2, h3, h4⟩ := h
    exact ⟨a, vs, hi _ _ h1, hn _ h1 h2, hH _ _ h1 h3, RepL.mono hF h4⟩
  | lsv ks =>
    obtain ⟨a, vs, h1, h2, h3, h4, h5⟩ := h
    exact ⟨a, vs, hi _ _ h1, hn _ h1 h2, hH _ _ h1 h3, RepVs.mono hi hF h4, h5⟩
  | dct ks xs =>
    obtain ⟨a, vs, h1, h2, h3, h4, h5⟩ := h
    exact ⟨a, vs, hi _ _ h1, hn _ h1 h2, hH _ _ h1 h3, RepL.mono hF h4, RepL.mono hF h5⟩
  | ins cc ns xs =>
    obtain ⟨a, dx, gs, h1, h2, h3, h4, h5, h6⟩ := h
    exact ⟨a, dx, gs, hi _ _ h1, hn _ h1 h2, hH _ _ h1 h3, h4, RepVs.mono hi hF h5, h6⟩
  | fz x =>
    obtain ⟨a, h1, h2⟩ := h
    exact ⟨a, hi _ _ h1, Rep.mono hF h2⟩
  | res => exact hres h
  | tup xs =>
    obtain ⟨a, vs, h1, h2, h3⟩ := h
    exact ⟨a, vs, hi _ _ h1, hF _ _ h2, RepL.mono hF h3⟩
  | tpz xs =>
    obtain ⟨a, vs, o, h1, h2, h3, h4, h5⟩ := h
    exact ⟨a, vs, o, hi _ _ h1, hF _ _ h2, h3, h4, RepL.mono hF h5⟩
  | dcT ks xs =>
    obtain ⟨a, ws, h1, h2, h3, h4, h5⟩ := h
    exact ⟨a, ws, hi _ _ h1, hn _ h1 h2, hH _ _ h1 h3, h4, RepL.mono hF h5⟩
  | dcN η ks xs =>
    obtain ⟨a, es, h1, h2, h3, h4, h5, h6⟩ := h
    exact ⟨a, es, hi _ _ h1, hn _ h1 h2, hH _ _ h1 h3, h4, RepL.mono hF h5, RepL.mono hF h6⟩
  | tbl p q =>
    obtain ⟨h1, h2, ps, h3, h4, h5⟩ := h
    refine ⟨hi _ _ h1, hn _ h1 h2, ps, hH _ _ h1 h3, h4, fun pos cv e => ?_⟩
    obtain ⟨c, e1, e2⟩ := h5 pos cv e
    exact ⟨c, e1, hF _ _ e2⟩
  | dvs xs =>
    obtain ⟨a, o, η, es, h1, h2, h3⟩ := h
    exact ⟨a, o, η, es, hi _ _ h1, hF _ _ h2, RepL.mono hF h3⟩
  | tblC p q c' =>
    obtain ⟨⟨h1, h2, ps, h3, h4, h5⟩, h6⟩ := h
    refine ⟨⟨hi _ _ h1, hn _ h1 h2, ps, hH _ _ h1 h3, h4, fun pos cv e => ?_⟩, hF _ _ h6⟩
    obtain ⟨c, e1, e2⟩ := h5 pos cv e
    exact ⟨c, e1, hF _ _ e2⟩
theorem CellAt.there {k : Nat} {c : Cell} (h : CellAt K io F H k c) (hc : ∀ x, c ≠ .fz x) (hc2 : c ≠ .res) (hc3 : ∀ xs, c ≠ .tup xs) (hc4 : ∀ xs, c ≠ .dvs xs ∧ c ≠ .tpz xs) : ∃ a o, io[k]? = some (some a) ∧ F a = none ∧ H a = some o := by
  cases c with
  | lst xs => obtain ⟨a, vs, h1, h2, h3, h4⟩ := h; exact ⟨a, _, h1, h2, h3⟩
  | lsv ks => obtain ⟨a, vs, h1, h2, h3, h4⟩ := h; exact ⟨a, _, h1, h2, h3⟩
  | dct ks xs => obtain ⟨a, vs, h1, h2, h3, h4⟩ := h; exact ⟨a, _, h1, h2, h3⟩
  | ins cc ns xs => obtain ⟨a, dx, vs, h1, h2, h3, h4⟩ := h; exact ⟨a, _, h1, h2, h3⟩
  | fz x => exact absurd rfl (hc x)
  | res => exact absurd rfl hc2
  | tup xs => exact absurd rfl (hc3 xs)
  | dcT ks xs => obtain ⟨a, vs, h1, h2, h3, h4⟩ := h; exact ⟨a, _, h1, h2, h3⟩
  | dcN η ks xs => obtain ⟨a, es, h1, h2, h3, h4⟩ := h; exact ⟨a, _, h1, h2, h3⟩
  | tbl x q => obtain ⟨h1, h2, ps, h3, h4⟩ := h; exact ⟨lamT K x, _, h1, h2, h3⟩
  | dvs xs => exact absurd rfl (hc4 xs).1
  | tpz xs => exact absurd rfl (hc4 xs).2
  | tblC x q c => obtain ⟨⟨h1, h2, ps, h3, h4⟩, _⟩ := h; exact ⟨lamT K x, _, h1, h2, h3⟩
theorem Sta.froze (st : Sta K io F S H) {p : Addr} {o : HO} (hp : H p = none) : Sta K io (upd F p o) S (upd H p o) ∧ Nxt io F H io (upd F p o) (upd H p o) := by
  have hF : F p = none := Same.free st.sub hp
  refine ⟨⟨st.len, st.inj, fun b u e => ?_, fun k a e z => ?_, fun k c e => ?_⟩, ⟨fun _ _ h => h, upd_same_of hF, fun b u e _ => ?_, fun _ _ h => .inl h, fun b e => ?_, fun b e => ?_⟩⟩
  · by_cases hb : b = p
    · subst hb
      rw [upd_same] at e ⊢
      exact e
    · rw [upd_ne hb] at e ⊢
      exact st.sub _ _ e
  · have q := st.trk k a e
    by_cases hb : a = p
    · subst hb; exact q hp
    · rw [upd_ne hb] at z; exact q z
  · have h := st.cel k c e
    by_cases hc : (∃ x, c = .fz x) ∨ c = .res ∨ (∃ xs, c = .tup xs) ∨ ∃ xs, c = .dvs xs ∨ c = .tpz xs
    · rcases hc with ⟨x, rfl⟩ | rfl | ⟨xs, rfl⟩ | ⟨xs, rfl | rfl⟩
      · obtain ⟨a, h1, h2⟩ := h
        exact ⟨a, h1, Rep.mono (upd_same_of hF) h2⟩
      · exact h
      · obtain ⟨a, vs, h1, h2, h3⟩ := h
        exact ⟨a, vs, h1, upd_same_of hF _ _ h2, RepL.mono (upd_same_of hF) h3⟩
      · obtain ⟨a, o, η, es, h1, h2, h3⟩ := h
        exact ⟨a, o, η, es, h1, upd_same_of hF _ _ h2, RepL.mono (upd_same_of hF) h3⟩
      · obtain ⟨a, vs, o, h1, h2, h3, h4, h5⟩ := h
        exact ⟨a, vs, o, h1, upd_same_of hF _ _ h2, h3, h4, RepL.mono (upd_same_of hF) h5⟩
    · have hc1 : ∀ x, c ≠ .fz x := fun x z => hc (.inl ⟨x, z⟩)
      have hc2 : c ≠ .res := fun z => hc (.inr (.inl z))
      obtain ⟨a, ob, ha, hn, hh⟩ := h.there hc1 hc2 (fun xs z => hc (.inr (.inr (.inl ⟨xs, z⟩)))) (fun xs => ⟨fun z => hc (.inr (.inr (.inr ⟨xs, .inl z⟩))), fun z => hc (.inr (.inr (.inr ⟨xs, .inr z⟩)))⟩)
      have nap : a ≠ p := ne_of_none hh hp
      refine h.mono (fun _ _ z => z) (upd_same_of hF) (fun b hb hn => ?_) fun b u hb hu => ?_
      · rw [ha] at hb; cases hb
        rw [upd_ne nap]; exact hn
      · rw [ha] at hb; cases hb
        rw [upd_ne nap]; exact hu
  · rw [upd_ne (ne_of_none e hp)]
    exact e
  · by_cases hb : b = p
    · subst hb; exact hp
    · rw [upd_ne hb] at e; exact e
  · by_cases hb : b = p
    · subst hb; exact .inr (.inl hp)
    · rw [upd_ne hb] at e; exact .inl e
theorem Sta.push (st : Sta K io F S H) {p : Addr} {o : HO} {c : Cell} (hp : H p = none) (hc : CellAt K (io ++ [some p]) F (upd H p o) S.length c) :
    Sta K (io ++ [some p]) F (S ++ [c]) (upd H p o) ∧ Nxt io F H (io ++ [some p]) F (upd H p o) := by
  have hF : F p = none := Same.free st.sub hp
  have hi : ∀ (k : Nat) (a : Addr), io[k]? = some (some a) → (io ++ [some p])[k]? = some (some a) := fun k a e => by
    rw [List.getElem?_append_left (List.getElem?_eq_some_iff.mp e).1]
    exact e
  have back : ∀ (k : Nat) (a : Addr), (io ++ [some p])[k]? = some (some a) → io[k]? = some (some a) ∨ (k = io.length ∧ a = p) := fun k a e => by
    rw [List.getElem?_append] at e
    split at e
    · exact .inl e
    · rename_i hk
      have hk2 : k - io.length = 0 := by
        have := (List.getElem?_eq_some_iff.mp e).1
        simp at this
        omega
      rw [hk2] at e
      have e' : p = a := by simpa using e
      exact .inr ⟨by omega, e'.symm⟩
  -- a live cell is not at p
  refine ⟨⟨by rw [List.length_append, List.length_append, st.len]; rfl, fun j k a h1 h2 => ?_, fun b u e => ?_, fun k a e z => ?_, fun k d e => ?_⟩, ⟨hi, fun _ _ h => h, fun b u e _ => ?_, fun k a h => ?_, fun b e => ?_, fun b e => .inl e⟩⟩
  · rcases back j a h1 with z | ⟨rfl, z⟩
    · rcases back k a h2 with y | ⟨rfl, y⟩
      · exact st.inj j k a z y
      · subst y; exact absurd hp (st.trk j _ z)
    · rcases back k a h2 with y | ⟨rfl, y⟩
      · subst z; exact absurd hp (st.trk k _ y)
      · rfl
  · rw [upd_ne (ne_of_none (st.sub _ _ e) hp)]
    exact st.sub _ _ e
  · rcases back k a e with y | ⟨rfl, y⟩
    · have q := st.trk k a y
      by_cases hb : a = p
      · subst hb; exact q hp
      · rw [upd_ne hb] at z; exact q z
    · subst y; rw [upd_same] at z; cases z
  · rw [List.getElem?_append] at e
    split at e
    · have h := st.cel k d e
      by_cases hd : (∃ x, d = .fz x) ∨ d = .res ∨ (∃ xs, d = .tup xs) ∨ ∃ xs, d = .dvs xs ∨ d = .tpz xs
      · rcases hd with ⟨x, rfl⟩ | rfl | ⟨xs, rfl⟩ | ⟨xs, rfl | rfl⟩
        · obtain ⟨a, h1, h2⟩ := h
          exact ⟨a, hi _ _ h1, h2⟩
        · exact app_none h
        · obtain ⟨a, vs, h1, h2, h3⟩ := h
          exact ⟨a, vs, hi _ _ h1, h2, h3⟩
        · obtain ⟨a, o, η, es, h1, h2, h3⟩ := h
          exact ⟨a, o, η, es, hi _ _ h1, h2, h3⟩
        · obtain ⟨a, vs, o, h1, h2, h3, h4, h5⟩ := h
          exact ⟨a, vs, o, hi _ _ h1, h2, h3, h4, h5⟩
      · obtain ⟨a, ob, ha, hn, hh⟩ := h.there (fun x z => hd (.inl ⟨x, z⟩)) (fun z => hd (.inr (.inl z))) (fun xs z => hd (.inr (.inr (.inl ⟨xs, z⟩)))) (fun xs => ⟨fun z => hd (.inr (.inr (.inr ⟨xs, .inl z⟩))), fun z => hd (.inr (.inr (.inr ⟨xs, .inr z⟩)))⟩)
        have nap : a ≠ p := ne_of_none hh hp
        refine h.mono hi (fun _ _ z => z) (fun _ _ hn => hn) fun b u hb hu => ?_
        rw [ha] at hb; cases hb
        rw [upd_ne nap]; exact hu
    · rename_i hk
      have hk2 : k - S.length = 0 := by
        have := (List.getElem?_eq_some_iff.mp e).1
        simp at this
        omega
      rw [hk2] at e
      have e' : c = d := by simpa using e
      subst e'
      have : k = S.length := by omega
      subst this
      exact hc
  · rw [upd_ne (ne_of_none e hp)]
    exact e
  · rcases back k a h with z | ⟨_, rfl⟩
    · exact .inl z
    · exact .inr hp
  · by_cases hb : b = p
    · subst hb; exact hp
    · rw [upd_ne hb] at e; exact e
theorem Sta.side (st : Sta K io F S H) {p : Addr} {o : HO} (hp : ∀ k : Nat, io[k]? ≠ some (some p)) (hF : F p = none) : Sta K io F S (upd H p o) := by
  refine ⟨st.len, st.inj, fun b u e => ?_, fun k a e z => ?_, fun k c e => ?_⟩
  · rw [upd_ne (ne_of_none e hF)]
    exact st.sub _ _ e
  · rw [upd_ne (fun q => by subst q; exact hp k e)] at z
    exact st.trk k a e z
  · refine (st.cel k c e).mono (fun _ _ z => z) (fun _ _ z => z) (fun _ _ hn => hn) fun b u hb hu => ?_
    rw [upd_ne (fun q => by subst q; exact hp k hb)]
    exact hu
def _root_.Mir.nv (S : Sto) : Vl → Vl
  | .p x => .p x
  | .c k => (match S[k]? with
    | some (.fz x) => .p x
    | some (.tup xs) => .p (.tup xs)
    | some (.tpz xs) => .p (.tup xs)
    | _ => .c k)
theorem Sta.nv (st : Sta K io F S H) {d : Vl} {v : V} (r : RepV K io F d v) : RepV K io F (Mir.nv S d) v := by
  cases d with
  | p x => exact r
  | c k =>
    unfold Mir.nv
    dsimp only
    split
    · rename_i x hk
      obtain ⟨a, ha, rfl⟩ := r
      obtain ⟨b, hb, hr⟩ := st.cel k _ hk
      rw [ha] at hb
      cases hb
      exact hr
    · rename_i xs hk
      obtain ⟨a, ha, rfl⟩ := r
      obtain ⟨b, vs, hb, hF, hr⟩ := st.cel k _ hk
      rw [ha] at hb
      cases hb
      exact ⟨a, vs, rfl, SqT.of hF, hr⟩
    · rename_i xs hk
      obtain ⟨a, ha, rfl⟩ := r
      obtain ⟨b, vs, o, hb, hF, _, _, hr⟩ := st.cel k _ hk
      rw [ha] at hb
      cases hb
      exact ⟨a, vs, rfl, .inl (.inr ⟨o, hF⟩), hr⟩
    · exact r
theorem Sta.notIn (st : Sta K io F S H) {p : Addr} (hp : H p = none) : ∀ k : Nat, io[k]? ≠ some (some p) := fun k e => st.trk k p e hp
end
end Mir

namespace Mir
open PySem L2
section
variable {K : PySem.W.Frag} {io io1 io2 : Io} {F F1 F2 H H1 H2 : Hp} {S : Sto}
theorem Sta.write (st : Sta K io F S H) {k : Nat} {a : Addr} {o : HO} {c : Cell} (ha : io[k]? = some (some a)) (hF : F a = none)
    (hc : CellAt K io F (upd H a o) k c) : Sta K io F (S.set k c) (upd H a o) ∧ Nxt io F H io F (upd H a o) := by
  refine ⟨⟨by rw [List.length_set]; exact st.len, st.inj, fun b u e => ?_, fun j b e z => ?_, fun j d e => ?_⟩, ⟨fun _ _ h => h, fun _ _ h => h, fun b u e n => ?_, fun _ _ h => .inl h, fun b e => ?_, fun b e => .inl e⟩⟩
  · rw [upd_ne (ne_of_none e hF)]
    exact st.sub _ _ e
  · by_cases hb : b = a
    · subst hb; rw [upd_same] at z; cases z
    · rw [upd_ne hb] at z; exact st.trk j b e z
  · by_cases hj : j = k
    · subst hj
      rw [List.getElem?_set_self (by
        have := (List.getElem?_eq_some_iff.mp ha).1
        rw [st.len] at this
        exact this)] at e
      cases e
      exact hc
    · rw [List.getElem?_set_ne (Ne.symm hj)] at e
      refine (st.cel j d e).mono (fun _ _ z => z) (fun _ _ z => z) (fun _ _ hn => hn) fun b u hb hu => ?_
      have nb : b ≠ a := fun q => by subst q; exact hj (st.inj j k _ hb ha)
      rw [upd_ne nb]; exact hu
  · rw [upd_ne (fun q => by subst q; exact n k ha)]
    exact e
  · by_cases hb : b = a
    · subst hb; rw [upd_same] at e; cases e
    · rw [upd_ne hb] at e; exact e
theorem Sta.freeze (st : Sta K io F S H) {k : Nat} {a : Addr} {o : HO} {x : P} (ha : io[k]? = some (some a)) (hF : F a = none) (hH : H a = some o) (hx : Rep K (upd F a o) x (.ref a)) :
    Sta K io (upd F a o) (S.set k (.fz x)) H ∧ Nxt io F H io (upd F a o) H := by
  refine ⟨⟨by rw [List.length_set]; exact st.len, st.inj, fun b u e => ?_, st.trk, fun j d e => ?_⟩, ⟨fun _ _ h => h, upd_same_of hF, fun b u e n => e, fun _ _ h => .inl h, fun b e => e, fun b e => by
    by_cases hb : b = a
    · subst hb; exact .inr (.inr ⟨k, ha⟩)
    · rw [upd_ne hb] at e; exact .inl e⟩⟩
  · by_cases hb : b = a
    · subst hb; rw [upd_same] at e; cases e; exact hH
    · rw [upd_ne hb] at e; exact st.sub _ _ e
  · by_cases hj : j = k
    · subst hj
      rw [List.getElem?_set_self (by
        have := (List.getElem?_eq_some_iff.mp ha).1
        rw [st.len] at this
        exact this)] at e
      cases e
      exact ⟨a, ha, hx⟩
    · rw [List.getElem?_set_ne (Ne.symm hj)] at e
      refine (st.cel j d e).mono (fun _ _ z => z) (upd_same_of hF) (fun b hb hn => ?_) fun b u hb hu => hu
      rw [upd_ne (fun q => by subst q; exact hj (st.inj j k _ hb ha))]
      exact hn
theorem Sta.lay (st : Sta K io F S H) {p : Addr} {o : HO} {c : Cell} (hp : ∀ k : Nat, io[k]? ≠ some (some p)) (hF : F p = none) (hH : H p = some o) (hc : CellAt K (io ++ [some p]) F H S.length c) :
    Sta K (io ++ [some p]) F (S ++ [c]) H ∧ ∀ (k : Nat) (a : Addr), io[k]? = some (some a) → (io ++ [some p])[k]? = some (some a) := by
  have hi : ∀ (k : Nat) (a : Addr), io[k]? = some (some a) → (io ++ [some p])[k]? = some (some a) := fun k a e => by
    rw [List.getElem?_append_left (List.getElem?_eq_some_iff.mp e).1]
    exact e
  have back : ∀ (k : Nat) (a : Addr), (io ++ [some p])[k]? = some (some a) → io[k]? = some (some a) ∨ (k = io.length ∧ a = p) := fun k a e => by
    rw [List.getElem?_append] at e
    split at e
    · exact .inl e
    · rename_i hk
      have hk2 : k - io.length = 0 := by
        have := (List.getElem?_eq_some_iff.mp e).1
        simp at this
        omega
      rw [hk2] at e
      have e' : p = a := by simpa using e
      exact .inr ⟨by omega, e'.symm⟩
  refine ⟨⟨by rw [List.length_append, List.length_append, st.len]; rfl, fun j k a h1 h2 => ?_, st.sub, fun k a e z => ?_, fun k d e => ?_⟩, hi⟩
  · rcases back j a h1 with z | ⟨rfl, z⟩
    · rcases back k a h2 with y | ⟨rfl, y⟩
      · exact st.inj j k a z y
      · subst y; exact absurd z (hp j)
    · rcases back k a h2 with y | ⟨rfl, y⟩
      · subst z; exact absurd y (hp k)
      · rfl
  · rcases back k a e with y | ⟨rfl, y⟩
    · exact st.trk k a y z
    · subst y; rw [hH] at z; cases z
  · rw [List.getElem?_append] at e
    split at e
    · exact (st.cel k d e).mono hi (fun _ _ z => z) (fun _ _ hn => hn) fun _ _ _ hu => hu
    · rename_i hk
      have hk2 : k - S.length = 0 := by
        have := (List.getElem?_eq_some_iff.mp e).1
        simp at this
        omega
      rw [hk2] at e
      have e' : c = d := by simpa using e
      subst e'
      have : k = S.length := by omega
      subst this
      exact hc
theorem RepVs.cut {n : Nat} : ∀ {xs : List Vl} {vs : List V}, (∀ j, Vl.c j ∈ xs → j < n) → RepVs K io F xs vs → RepVs K (io.take n) F xs vs
  | [], _, _, h => h
  | x :: xs, vs, hn, ⟨v, r, e1, h1, h2⟩ => by
    refine ⟨v, r, e1, ?_, RepVs.cut (fun j hj => hn j (List.mem_cons_of_mem _ hj)) h2⟩
    cases x with
    | p y => exact h1
    | c j =>
      obtain ⟨a, ha, hv⟩ := h1
      exact ⟨a, by rw [List.getElem?_take_of_lt (hn j List.mem_cons_self)]; exact ha, hv⟩
theorem Sta.cut (st : Sta K io F S H) (n : Nat) : Sta K (io.take n) F (S.take n) H := by
  have hb : ∀ (k : Nat) (a : Addr), (io.take n)[k]? = some (some a) → io[k]? = some (some a) := fun k a e => by
    rw [List.getElem?_take] at e
    split at e
    · exact e
    · cases e
  refine ⟨by rw [List.length_take, List.length_take, st.len], fun j k a h1 h2 => st.inj j k a (hb _ _ h1) (hb _ _ h2), st.sub, fun k a e => st.trk k a (hb _ _ e), fun k c e => ?_⟩
  have hk : k < n := by
    rw [List.getElem?_take] at e
    split at e
    · assumption
    · cases e
  rw [List.getElem?_take_of_lt hk] at e
  have h := st.cel k c e
  have hi : ∀ a, io[k]? = some (some a) → (io.take n)[k]? = some (some a) := fun a z => by rw [List.getElem?_take_of_lt hk]; exact z
  cases c with
  | lst xs =>
    obtain ⟨a, vs, h1, h2, h3, h4⟩ := h
    exact ⟨a, vs, hi _ h1, h2, h3, h4⟩
  | lsv ks =>
    obtain ⟨a, vs, h1, h2, h3, h4, h5⟩ := h
    exact ⟨a, vs, hi _ h1, h2, h3, RepVs.cut (fun j hj => Nat.lt_trans (h5 j hj) hk) h4, h5⟩
  | dct ks xs =>
    obtain ⟨a, vs, h1, h2, h3, h4, h5⟩ := h
    exact ⟨a, vs, hi _ h1, h2, h3, h4, h5⟩
  | ins cc ns xs =>
    obtain ⟨a, dx, gs, h1, h2, h3, h4, h5, h6⟩ := h
    exact ⟨a, dx, gs, hi _ h1, h2, h3, h4, RepVs.cut (fun j hj => Nat.lt_trans (h6 j hj) hk) h5, h6⟩
  | fz x =>
    obtain ⟨a, h1, h2⟩ := h
    exact ⟨a, hi _ h1, h2⟩
  | res =>
    show (io.take n)[k]? = some none
    rw [List.getElem?_take_of_lt hk]
    exact h
  | tup xs =>
    obtain ⟨a, vs, h1, h2, h3⟩ := h
    exact ⟨a, vs, hi _ h1, h2, h3⟩
  | tpz xs =>
    obtain ⟨a, vs, o, h1, h2, h3, h4, h5⟩ := h
    exact ⟨a, vs, o, hi _ h1, h2, h3, h4, h5⟩
  | dcT ks xs =>
    obtain ⟨a, ws, h1, h2, h3, h4, h5⟩ := h
    exact ⟨a, ws, hi _ h1, h2, h3, h4, h5⟩
  | dcN η ks xs =>
    obtain ⟨a, es, h1, h2, h3, h4, h5, h6⟩ := h
    exact ⟨a, es, hi _ h1, h2, h3, h4, h5, h6⟩
  | tbl p q =>
    obtain ⟨h1, h2, h3⟩ := h
    exact ⟨hi _ h1, h2, h3⟩
  | dvs xs =>
    obtain ⟨a, o, η, es, h1, h2, h3⟩ := h
    exact ⟨a, o, η, es, hi _ h1, h2, h3⟩
  | tblC p q c =>
    obtain ⟨⟨h1, h2, h3⟩, h4⟩ := h
    exact ⟨⟨hi _ h1, h2, h3⟩, h4⟩
theorem Nxt.cut {n : Nat} (hn : io.length = n) (a : Nxt io F H io1 F1 H1) : Nxt io F H (io1.take n) F1 H1 where
  han := fun k x e => by
    have hk : k < n := by
      rw [← hn]
      exact (List.getElem?_eq_some_iff.mp e).1
    rw [List.getElem?_take_of_lt hk]
    exact a.han k x e
  fr := a.fr
  out := a.out
  new := fun k x e => by
    rw [List.getElem?_take] at e
    split at e
    · exact a.new k x e
    · cases e
  stay := a.stay
  nf := a.nf
theorem RepV.cut {n : Nat} {d : Vl} {v : V} (hd : ∀ j, d = .c j → j < n) (h : RepV K io F d v) : RepV K (io.take n) F d v := by
  cases d with
  | p y => exact h
  | c j =>
    obtain ⟨a, ha, hv⟩ := h
    exact ⟨a, by rw [List.getElem?_take_of_lt (hd j rfl)]; exact ha, hv⟩
end

def XRep (K : PySem.W.Frag) (F H : Hp) : XD → Option Addr → Prop
  | none, d => d = none
  | some (ns, xs), d => ∃ a gs, d = some a ∧ F a = some (.xd gs) ∧ gs.map (·.1) = ns ∧ RepL K F xs (gs.map (·.2))
def RG {A B : Type} (K : PySem.W.Frag) (R : Io → Hp → A → B → Prop) (r : Res A) (io : Io) (F H : Hp) (Q : B → Hp → Prop) (W : XK) : Prop := match r with
  | .ok d S' => ∀ io' F' H' v, Nxt io F H io' F' H' → Sta K io' F' S' H' → R io' F' d v → Q v H'
  | .exc c x S' => ∀ io' F' H' d, Nxt io F H io' F' H' → Sta K io' F' S' H' → XRep K F' H' x d → W (.ref (He.ga K c)) d H'
  | .bad => False
section
variable {K : PySem.W.Frag} {io : Io} {F H : Hp} {S : Sto} {A B C D : Type} {R : Io → Hp → A → B → Prop} {R' : Io → Hp → C → D → Prop} {Q : D → Hp → Prop} {Q1 : B → Hp → Prop} {W : XK}
theorem RG.step {io1 : Io} {F1 H1 : Hp} {r : Res A} {Q : B → Hp → Prop} (nx : Nxt io F H io1 F1 H1) (h : RG K R r io F H Q W) : RG K R r io1 F1 H1 Q W := by
  cases r with
  | ok a S => exact fun io' F' H' v n s rp => h io' F' H' v (nx.trans n) s rp
  | exc c x S => exact fun io' F' H' d n s rp => h io' F' H' d (nx.trans n) s rp
  | bad => exact h
theorem RG.bind {r : Res A} {f : A → Sto → Res C} (h : RG K R' (r.bind f) io F H Q W)
    (k : ∀ a S1 io1 F1 H1 v, r = .ok a S1 → Nxt io F H io1 F1 H1 → Sta K io1 F1 S1 H1 → R io1 F1 a v → RG K R' (f a S1) io1 F1 H1 Q W → Q1 v H1) : RG K R r io F H Q1 W := by
  cases r with
  | ok a S => exact fun io' F' H' v n s rp => k a S io' F' H' v rfl n s rp (RG.step n h)
  | exc c x S => exact h
  | bad => exact h
theorem RG.val {d : A} {v : B} {Q : B → Hp → Prop} (st : Sta K io F S H) (hr : R io F d v) (h : RG K R (.ok d S) io F H Q W) : Q v H := h io F H v Nxt.refl st hr
end
abbrev RepA (K : PySem.W.Frag) : Io → Hp → Vl → V → Prop := fun io F d v => RepV K io F d v
abbrev RepAs (K : PySem.W.Frag) : Io → Hp → List Vl → List V → Prop := fun io F d v => RepVs K io F d v

def RepO (K : PySem.W.Frag) (io : Io) (F : Hp) : Option Vl → Option V → Prop
  | none, _ => True
  | some d, o => ∃ v, o = some v ∧ RepV K io F d v
def Env (K : PySem.W.Frag) (io : Io) (F : Hp) : En → St → Prop
  | [], s => s = []
  | d :: ds, s => ∃ o r, s = o :: r ∧ RepO K io F d o ∧ Env K io F ds r
section
variable {K : PySem.W.Frag} {io io' : Io} {F F' H H' : Hp}
theorem RepO.mono (hi : ∀ (k : Nat) (a : Addr), io[k]? = some (some a) → io'[k]? = some (some a)) (e : Same F F') : ∀ {d : Option Vl} {o : Option V}, RepO K io F d o → RepO K io' F' d o
  | none, _, _ => trivial
  | some _, _, ⟨v, e1, h⟩ => ⟨v, e1, h.mono hi e⟩
theorem Env.mono (hi : ∀ (k : Nat) (a : Addr), io[k]? = some (some a) → io'[k]? = some (some a)) (e : Same F F') : ∀ {ds : En} {s : St}, Env K io F ds s → Env K io' F' ds s
  | [], _, h => h
  | d :: ds, _, ⟨o, r, e1, h1, h2⟩ => ⟨o, r, e1, h1.mono hi e, Env.mono hi e h2⟩
theorem Env.nxt (n : Nxt io F H io' F' H') {ds : En} {s : St} (h : Env K io F ds s) : Env K io' F' ds s := h.mono n.han n.fr
theorem Env.get : ∀ {ds : En} {s : St} {i : Nat} {d : Vl}, Env K io F ds s → ds[i]? = some (some d) → ∃ v, s[i]? = some (some v) ∧ RepV K io F d v
  | [], _, _, _, _, e => by simp at e
  | x :: ds, s, 0, d, ⟨o, r, e1, h1, h2⟩, e => by
    have e' : x = some d := by simpa using e
    subst e'
    obtain ⟨v, e2, h3⟩ := h1
    subst e1; subst e2
    exact ⟨v, rfl, h3⟩
  | x :: ds, s, i + 1, d, ⟨o, r, e1, h1, h2⟩, e => by
    subst e1
    obtain ⟨v, hv, hr⟩ := Env.get (i := i) h2 (by simpa using e)
    exact ⟨v, by simpa using hv, hr⟩
theorem Env.set {d : Vl} {v : V} (hr : RepV K io F d v) : ∀ {ds : En} {s : St} (i : Nat), Env K io F ds s → Env K io F (ds.set i (some d)) (s.set i (some v))
  | [], _, _, h => by
    have h' : _ = _ := h
    subst h'
    exact rfl
  | x :: ds, s, 0, ⟨o, r, e1, h1, h2⟩ => by
    subst e1
    exact ⟨some v, r, rfl, ⟨v, rfl, hr⟩, h2⟩
  | x :: ds, s, i + 1, ⟨o, r, e1, h1, h2⟩ => by
    subst e1
    exact ⟨o, _, rfl, h1, Env.set hr i h2⟩
theorem Env.unset : ∀ {ds : En} {s : St} (i : Nat) (o : Option V), Env K io F ds s → Env K io F (ds.set i none) (s.set i o)
  | [], _, _, _, h => by
    have h' : _ = _ := h
    subst h'
    exact rfl
  | x :: ds, s, 0, o', ⟨o, r, e1, h1, h2⟩ => by
    subst e1
    exact ⟨o', r, rfl, trivial, h2⟩
  | x :: ds, s, i + 1, o', ⟨o, r, e1, h1, h2⟩ => by
    subst e1
    exact ⟨o, _, rfl, h1, Env.unset i o' h2⟩
theorem Env.start : ∀ {ds : List Vl} {vs : List V} (n : Nat), RepVs K io F ds vs → Env K io F (ds.map some ++ List.replicate n none) (vs.map some ++ List.replicate n none)
  | [], _, n, h => by
    have h' : _ = _ := h
    subst h'
    show Env K io F (List.replicate n none) (List.replicate n none)
    induction n with
    | zero => exact rfl
    | succ n ih => exact ⟨none, _, rfl, trivial, ih⟩
  | d :: ds, _, n, ⟨v, r, e1, h1, h2⟩ => by
    subst e1
    exact ⟨some v, _, rfl, ⟨v, rfl, h1⟩, Env.start n h2⟩
def wipeE (ds : En) : List Nat → En
  | [] => ds
  | v :: vs => (wipeE ds vs).set v none
theorem Env.wipe {ds : En} {s : St} (h : Env K io F ds s) : ∀ vs : List Nat, Env K io F (wipeE ds vs) (L2.wipe s vs)
  | [] => h
  | v :: vs => (Env.wipe h vs).unset v none
end

def OE (X : Cx) (W : WX) (e : Expr) (m : ME) : Prop := ∃ t, PE X e t ∧ ∀ (ρ : En) (S : Sto) (io : Io) (F : Hp) (σ : St) (H : Hp) (Q : VK), Sta X.K io F S H → Env X.K io F ρ σ →
  RG X.K (RepA X.K) (m ρ S) io F H Q (fun c d H' => W c d σ H') → t σ H Q
abbrev MT := En → Sto → Res Bool
def RepB : Io → Hp → Bool → Bool → Prop := fun _ _ b c => b = c
def OT (X : Cx) (W : WX) (e : Expr) (m : MT) : Prop := ∃ t, PT X e t ∧ ∀ (ρ : En) (S : Sto) (io : Io) (F : Hp) (σ : St) (H : Hp) (Q : Bool → Hp → Prop), Sta X.K io F S H → Env X.K io F ρ σ →
  RG X.K RepB (m ρ S) io F H Q (fun c d H' => W c d σ H') → t σ H Q
abbrev MA := En → Sto → Res (List Vl)
def OA (X : Cx) (W : WX) (es : List Expr) (m : MA) : Prop := ∃ t, PA X es t ∧ ∀ (ρ : En) (S : Sto) (io : Io) (F : Hp) (σ : St) (H : Hp) (Q : List V → Hp → Prop), Sta X.K io F S H → Env X.K io F ρ σ →
  RG X.K (RepAs X.K) (m ρ S) io F H Q (fun c d H' => W c d σ H') → t σ H Q
inductive Fl where
  | nx (ρ : En) | rt (d : Vl) | bk (ρ : En) | ct (ρ : En) | xc (ρ : En) (c : Str) (d : XD)
inductive RF where
  | ok (f : Fl) (S : Sto)
  | bad
abbrev MS := En → Sto → RF
def RS (K : PySem.W.Frag) (r : RF) (io : Io) (F H : Hp) (D : Ends) (W : WX) : Prop := match r with
  | .ok (.nx ρ) S' => ∀ io' F' H' σ', Nxt io F H io' F' H' → Sta K io' F' S' H' → Env K io' F' ρ σ' → D.nx σ' H'
  | .ok (.rt d) S' => ∀ io' F' H' v, Nxt io F H io' F' H' → Sta K io' F' S' H' → RepV K io' F' d v → D.rt v H'
  | .ok (.bk ρ) S' => ∀ io' F' H' σ', Nxt io F H io' F' H' → Sta K io' F' S' H' → Env K io' F' ρ σ' → D.bk σ' H'
  | .ok (.ct ρ) S' => ∀ io' F' H' σ', Nxt io F H io' F' H' → Sta K io' F' S' H' → Env K io' F' ρ σ' → D.ct σ' H'
  | .ok (.xc ρ c x) S' => ∀ io' F' H' d σ', Nxt io F H io' F' H' → Sta K io' F' S' H' → Env K io' F' ρ σ' → XRep K F' H' x d → W (.ref (He.ga K c)) d σ' H'
  | .bad => False
def OS (X : Cx) (W : WX) (st : Stmt) (m : MS) : Prop := ∃ t, PS X st t ∧ ∀ (ρ : En) (S : Sto) (io : Io) (F : Hp) (σ : St) (H : Hp) (D : Ends), Sta X.K io F S H → Env X.K io F ρ σ →
  RS X.K (m ρ S) io F H D W → t D σ H
def OSs (X : Cx) (W : WX) (st : List Stmt) (m : MS) : Prop := ∃ t, PSs X st t ∧ ∀ (ρ : En) (S : Sto) (io : Io) (F : Hp) (σ : St) (H : Hp) (D : Ends), Sta X.K io F S H → Env X.K io F ρ σ →
  RS X.K (m ρ S) io F H D W → t D σ H
def Res.go {A : Type} (r : Res A) (ρ : En) (f : A → Sto → RF) : RF := match r with
  | .ok a S => f a S
  | .exc c x S => .ok (.xc ρ c x) S
  | .bad => .bad
section
variable {K : PySem.W.Frag} {io : Io} {F H : Hp} {S : Sto} {A B : Type} {R : Io → Hp → A → B → Prop} {Q1 : B → Hp → Prop} {W : WX} {D : Ends} {ρ : En} {σ : St}
theorem RS.step {io1 : Io} {F1 H1 : Hp} {r : RF} (nx : Nxt io F H io1 F1 H1) (h : RS K r io F H D W) : RS K r io1 F1 H1 D W := by
  cases r with
  | ok f S =>
    cases f with
    | nx ρ => exact fun io' F' H' v n s rp => h io' F' H' v (nx.trans n) s rp
    | rt ρ => exact fun io' F' H' v n s rp => h io' F' H' v (nx.trans n) s rp
    | bk ρ => exact fun io' F' H' v n s rp => h io' F' H' v (nx.trans n) s rp
    | ct ρ => exact fun io' F' H' v n s rp => h io' F' H' v (nx.trans n) s rp
    | xc ρ c x => exact fun io' F' H' d v n s rp xr => h io' F' H' d v (nx.trans n) s rp xr
  | bad => exact h
theorem RS.go {r : Res A} {f : A → Sto → RF} (en : Env K io F ρ σ) (h : RS K (r.go ρ f) io F H D W)
    (k : ∀ a S1 io1 F1 H1 v, r = .ok a S1 → Nxt io F H io1 F1 H1 → Sta K io1 F1 S1 H1 → R io1 F1 a v → RS K (f a S1) io1 F1 H1 D W → Q1 v H1) : RG K R r io F H Q1 (fun c d H' => W c d σ H') := by
  cases r with
  | ok a S => exact fun io' F' H' v n s rp => k a S io' F' H' v rfl n s rp (RS.step n h)
  | exc c x S => exact fun io' F' H' d n s xr => h io' F' H' d σ n s (en.nxt n) xr
  | bad => exact h
end
end Mir

namespace Mir
open PySem L2

def eVar (i : Nat) : ME := fun ρ S => match ρ[i]? with
  | some (some d) => .ok d S
  | _ => .bad
def eC (x : P) : ME := fun _ S => .ok (.p x) S
def op1 (f : P → Option P) (x : Vl) (S : Sto) : Res Vl := match rd S x with
  | some x => (match f x with
    | some z => .ok (.p z) S
    | none => .bad)
  | none => .bad
def op2 (f : P → P → Option P) (x y : Vl) (S : Sto) : Res Vl := match rd S x, rd S y with
  | some x, some y => (match f x y with
    | some z => .ok (.p z) S
    | none => .bad)
  | _, _ => .bad
def eUn (f : P → Option P) (a : ME) : ME := fun ρ S => (a ρ S).bind fun x S1 => op1 f x S1
def eBin (f : P → P → Option P) (a b : ME) : ME := fun ρ S => (a ρ S).bind fun x S1 => (b ρ S1).bind fun y S2 => op2 f x y S2
def tst (x : Vl) (S : Sto) : Res Bool := match x with
  | .p (.bl b) => .ok b S
  | _ => .bad
def tVal (a : ME) : MT := fun ρ S => (a ρ S).bind tst
def tAndM (a b : MT) : MT := fun ρ S => (a ρ S).bind fun x S1 => match x with
  | true => b ρ S1
  | false => .ok false S1
def tOrM (a b : MT) : MT := fun ρ S => (a ρ S).bind fun x S1 => match x with
  | true => .ok true S1
  | false => b ρ S1
def tNotM (a : MT) : MT := fun ρ S => (a ρ S).bind fun x S1 => .ok (!x) S1
def eAndM (a b : ME) : ME := fun ρ S => (a ρ S).bind fun x S1 => (tst x S1).bind fun c S2 => match c with
  | true => b ρ S2
  | false => .ok (.p (.bl false)) S2
def eOrM (a b : ME) : ME := fun ρ S => (a ρ S).bind fun x S1 => (tst x S1).bind fun c S2 => match c with
  | true => .ok (.p (.bl true)) S2
  | false => b ρ S2
def eNotM (a : ME) : ME := fun ρ S => (a ρ S).bind fun x S1 => (tst x S1).bind fun c S2 => .ok (.p (.bl (!c))) S2
def eIfM (t : MT) (a b : ME) : ME := fun ρ S => (t ρ S).bind fun x S1 => match x with
  | true => a ρ S1
  | false => b ρ S1
def aNil : MA := fun _ S => .ok [] S
def aCons (a : ME) (r : MA) : MA := fun ρ S => (a ρ S).bind fun x S1 => (r ρ S1).bind fun xs S2 => .ok (x :: xs) S2
def seqR (f : Vl → Sto → Res P) : List Vl → Sto → Res (List P)
  | [], S => .ok [] S
  | x :: xs, S => (f x S).bind fun y S1 => (seqR f xs S1).bind fun ys S2 => .ok (y :: ys) S2
def frzN : Nat → Vl → Sto → Res P
  | 0, x, S => (match x with
    | .p x => .ok x S
    | .c _ => .bad)
  | n + 1, x, S => match x with
    | .p x => .ok x S
    | .c k => match S[k]? with
      | some (.lst xs) => .ok (.lst xs) (S.set k (.fz (.lst xs)))
      | some (.dct ks xs) => .ok (.dct ks xs) (S.set k (.fz (.dct ks xs)))
      | some (.fz x) => .ok x S
      | some (.tup xs) => .ok (.tup xs) S
      | some (.tpz xs) => .ok (.tup xs) S
      | some (.lsv xs) => (seqR (frzN n) xs S).bind fun ys S1 => (match S1[k]? with
        | some (.lsv _) => .ok (.lst ys) (S1.set k (.fz (.lst ys)))
        | _ => .bad)
      | some (.ins c ns xs) => (seqR (frzN n) xs S).bind fun ys S1 => (match S1[k]? with
        | some (.ins c' ns' _) => if c' = c ∧ ns' = ns then .ok (.obj c ns ys) (S1.set k (.fz (.obj c ns ys))) else .bad
        | _ => .bad)
      | _ => .bad
def frz (x : Vl) (S : Sto) : Res P := frzN 3 x S
def frzs (xs : List Vl) (S : Sto) : Res (List P) := seqR frz xs S
@[simp] theorem frz_p (x : P) (S : Sto) : frz (.p x) S = .ok x S := rfl
@[simp] theorem frzs_p : ∀ (xs : List P) (S : Sto), frzs (xs.map Vl.p) S = .ok xs S
  | [], S => rfl
  | x :: xs, S => by
    show ((frz (.p x) S).bind fun y S1 => (frzs (xs.map Vl.p) S1).bind fun ys S2 => Res.ok (y :: ys) S2) = _
    rw [frz_p]
    show ((frzs (xs.map Vl.p) S).bind fun ys S2 => Res.ok (x :: ys) S2) = _
    rw [frzs_p xs S]
    rfl
theorem seqR_nox {f : Vl → Sto → Res P} (hf : ∀ x S c d S', f x S ≠ .exc c d S') : ∀ (xs : List Vl) (S : Sto) (c : Str) (d : XD) (S' : Sto), seqR f xs S ≠ .exc c d S'
  | [], S, c, d, S', e => nomatch e
  | x :: xs, S, c, d, S', e => by
    have e : ((f x S).bind fun y S1 => (seqR f xs S1).bind fun ys S2 => Res.ok (y :: ys) S2) = .exc c d S' := e
    cases q : f x S with
    | bad => rw [q] at e; cases e
    | exc c' d' S1 => exact hf _ _ _ _ _ q
    | ok y S1 =>
      rw [q] at e
      have e : ((seqR f xs S1).bind fun ys S2 => Res.ok (y :: ys) S2) = .exc c d S' := e
      cases q2 : seqR f xs S1 with
      | bad => rw [q2] at e; cases e
      | exc c' d' S2 => exact seqR_nox hf xs S1 c' d' S2 q2
      | ok ys S2 => rw [q2] at e; cases e
theorem frzN_nox : ∀ (n : Nat) (x : Vl) (S : Sto) (c : Str) (d : XD) (S' : Sto), frzN n x S ≠ .exc c d S'
  | 0, .p _, S, c, d, S', e => nomatch e
  | 0, .c _, S, c, d, S', e => nomatch e
  | n + 1, .p _, S, c, d, S', e => nomatch e
  | n + 1, .c k, S, c, d, S', e => by
    unfold frzN at e
    dsimp only at e
    split at e
    · cases e
    · cases e
    · cases e
    · cases e
    · cases e
    · rename_i xs _
      cases q : seqR (frzN n) xs S with
      | bad => rw [q] at e; cases e
      | exc c' d' S1 => exact seqR_nox (frzN_nox n) _ _ _ _ _ q
      | ok ys S1 =>
        rw [q] at e
        have e : (match S1[k]? with
          | some (.lsv _) => Res.ok (P.lst ys) (S1.set k (.fz (.lst ys)))
          | _ => .bad) = .exc c d S' := e
        split at e <;> cases e
    · rename_i c2 ns xs _
      cases q : seqR (frzN n) xs S with
      | bad => rw [q] at e; cases e
      | exc c' d' S1 => exact seqR_nox (frzN_nox n) _ _ _ _ _ q
      | ok ys S1 =>
        rw [q] at e
        have e : (match S1[k]? with
          | some (.ins c' ns' _) => if c' = c2 ∧ ns' = ns then Res.ok (P.obj c2 ns ys) (S1.set k (.fz (.obj c2 ns ys))) else .bad
          | _ => .bad) = .exc c d S' := e
        split at e
        · split at e <;> cases e
        · cases e
    · cases e
theorem frz_nox (x : Vl) (S : Sto) (c : Str) (d : XD) (S' : Sto) : frz x S ≠ .exc c d S' := frzN_nox 3 x S c d S'
def eTup (a : MA) : ME := fun ρ S => (a ρ S).bind fun xs S1 => (frzs xs S1).bind fun ys S2 => if ys.length ≤ 100000 then .ok (.p (.tup ys)) S2 else .bad
def eLst (a : MA) : ME := fun ρ S => (a ρ S).bind fun xs S1 => (frzs xs S1).bind fun ys S2 => if ys.length ≤ 100000 then .ok (.p (.lst ys)) S2 else .bad
def eLstC (a : MA) : ME := fun ρ S => (a ρ S).bind fun xs S1 => (frzs xs S1).bind fun ys S2 => if ys.length ≤ 100000 then .ok (.c S2.length) (S2 ++ [.lst ys]) else .bad

def UnOk (K : PySem.W.Frag) (r : V → Hp → VK → Prop) (f : P → Option P) : Prop := ∀ (io : Io) (F : Hp) (S : Sto) (H : Hp) (x : P) (v : V) (z : P) (Q : VK), Sta K io F S H → RepR K F H x v → f x = some z →
  (∀ F' H' u, Nxt io F H io F' H' → Sta K io F' S H' → Rep K F' z u → Q u H') → r v H Q
def BinOk (K : PySem.W.Frag) (r : R2) (f : P → P → Option P) : Prop := ∀ (io : Io) (F : Hp) (S : Sto) (H : Hp) (x y : P) (v w : V) (z : P) (Q : VK), Sta K io F S H → RepR K F H x v → RepR K F H y w → f x y = some z →
  (∀ F' H' u, Nxt io F H io F' H' → Sta K io F' S H' → Rep K F' z u → Q u H') → r v w H Q
section
variable {X : Cx} {W : WX} {a b c : Expr} {ma mb mc : ME} {pos : Pos} {ta tb : MT} {es : List Expr} {mas : MA}
theorem Sta.op2 {K : PySem.W.Frag} {io : Io} {F : Hp} {S : Sto} {H : Hp} {r : R2} {f : P → P → Option P} {d d2 : Vl} {v v2 : V} {Q : VK} {E : XK} (hf : BinOk K r f) (st : Sta K io F S H) (r1 : RepV K io F d v) (r2 : RepV K io F d2 v2)
    (h : RG K (RepA K) (Mir.op2 f d d2 S) io F H Q E) : r v v2 H Q := by
  unfold Mir.op2 at h
  cases e1 : Mir.rd S d with
  | none => rw [e1] at h; exact h.elim
  | some x =>
    cases e2 : Mir.rd S d2 with
    | none => rw [e1, e2] at h; exact h.elim
    | some y =>
      rw [e1, e2] at h
      dsimp only at h
      cases e3 : f x y with
      | none => rw [e3] at h; exact h.elim
      | some z =>
        rw [e3] at h
        exact hf io F S H x y v v2 z Q st (st.rd r1 e1) (st.rd r2 e2) e3 fun F' H' u n s rp => h io F' H' u n s rp
theorem Sta.op1 {K : PySem.W.Frag} {io : Io} {F : Hp} {S : Sto} {H : Hp} {r : V → Hp → VK → Prop} {f : P → Option P} {d : Vl} {v : V} {Q : VK} {E : XK} (hf : UnOk K r f) (st : Sta K io F S H) (r1 : RepV K io F d v)
    (h : RG K (RepA K) (Mir.op1 f d S) io F H Q E) : r v H Q := by
  unfold Mir.op1 at h
  cases e1 : Mir.rd S d with
  | none => rw [e1] at h; exact h.elim
  | some x =>
    rw [e1] at h
    dsimp only at h
    cases e3 : f x with
    | none => rw [e3] at h; exact h.elim
    | some z =>
      rw [e3] at h
      exact hf io F S H x v z Q st (st.rd r1 e1) e3 fun F' H' u n s rp => h io F' H' u n s rp
theorem oe_var (i : Nat) {x : Str} (hN : X.N[i]? = some x := by rfl) (hv : Vis X.env.scope x := by first | exact Or.inl rfl | exact Or.inr (Or.inl rfl) | exact Or.inr (Or.inr rfl)) (hd : (x == ("__debug__" : Str)) = false := by decide)
    (hcd : (x == ("__classdict__" : Str)) = false := by decide) : OE X W (.Name x pos) (eVar i) := by
  refine ⟨_, pe_var hN hv hd hcd, fun ρ S io F σ H Q st en h => ?_⟩
  unfold eVar at h
  cases e : ρ[i]? with
  | none => rw [e] at h; exact h.elim
  | some o =>
    cases o with
    | none => rw [e] at h; exact h.elim
    | some d =>
      rw [e] at h
      obtain ⟨v, hv, hr⟩ := en.get e
      exact ⟨v, hv, RG.val st hr h⟩
theorem oe_c {e : Expr} {v : V} {x : P} (h : PE X e (tC v)) (hr : ∀ F, Rep X.K F x v) : OE X W e (eC x) :=
  ⟨_, h, fun ρ S io F σ H Q st en h => RG.val (R := RepA X.K) (d := .p x) st (hr F) h⟩
theorem oe_int {i : Int} {j : Nat} : OE X W (.Constant (.int i) j pos) (eC (.int i)) := oe_c pe_int fun _ => rfl
theorem oe_bl {i : Bool} {j : Nat} : OE X W (.Constant (.bool i) j pos) (eC (.bl i)) := oe_c pe_bl fun _ => rfl
theorem oe_non {j : Nat} : OE X W (.Constant .none j pos) (eC .non) := oe_c pe_non fun _ => rfl
theorem strOf_toList (x : Str) : strOf x.cps.toList = x := by
  unfold strOf
  rw [Array.toArray_toList]
theorem oe_str {x : Str} {j : Nat} {xs : List Nat} (h : x.cps.toList = xs := by rfl) : OE X W (.Constant (.str x) j pos) (eC (.str xs)) := oe_c pe_str fun _ => by
  show V.str x = V.str (strOf xs)
  rw [← h, strOf_toList]
theorem oe_glob {x : Str} {v : V} {u : Value} {p : P} (hm : X.mg x = some u) (r : RelV v u) (hp : ∀ F, Rep X.K F p v) (hg : Gl X x := by rfl) (hd : (x == ("__debug__" : Str)) = false := by decide) : OE X W (.Name x pos) (eC p) := oe_c (pe_glob hg hm r hd) hp
theorem oe_bltn {x : Str} {v : V} {u : Value} {p : P} (hm : X.mg x = none) (hv : bootBuiltins x = some u) (r : RelV v u) (hp : ∀ F, Rep X.K F p v) (hg : Gl X x := by rfl) (hn : x ≠ "__name__" := by decide) (hd : (x == ("__debug__" : Str)) = false := by decide) : OE X W (.Name x pos) (eC p) := oe_c (pe_bltn hg hm hv r hn hd) hp
theorem oe_bin {op : Operator} {r : R2} {f : P → P → Option P} (ho : OpR X (binaryOp op) r) (hf : BinOk X.K r f) (ha : OE X W a ma) (hb : OE X W b mb) : OE X W (.BinOp a op b pos) (eBin f ma mb) := by
  obtain ⟨ta, pa, ha⟩ := ha
  obtain ⟨tb, pb, hb⟩ := hb
  refine ⟨tOp r ta tb, pe_op ho pa pb, fun ρ S io F σ H Q st en h => ?_⟩
  refine ha ρ S io F σ H _ st en (RG.bind h fun d S1 io1 F1 H1 v e1 n1 s1 r1 h1 => ?_)
  refine hb ρ S1 io1 F1 σ H1 _ s1 (en.nxt n1) (RG.bind h1 fun d2 S2 io2 F2 H2 v2 e2 n2 s2 r2 h2 => ?_)
  exact s2.op2 hf (r1.mono n2.han n2.fr) r2 h2
theorem oe_cmp {op : CmpOp} {r : R2} {f : P → P → Option P} (ho : OpR X (compareOp op) r) (hf : BinOk X.K r f) (ha : OE X W a ma) (hb : OE X W b mb) (hm : behindInMarks op b = false := by first | exact nomark _ | rfl) : OE X W (.Compare a [op] [b] pos) (eBin f ma mb) := by
  obtain ⟨ta, pa, ha⟩ := ha
  obtain ⟨tb, pb, hb⟩ := hb
  refine ⟨tOp r ta tb, pe_cmpR ho pa pb hm, fun ρ S io F σ H Q st en h => ?_⟩
  refine ha ρ S io F σ H _ st en (RG.bind h fun d S1 io1 F1 H1 v e1 n1 s1 r1 h1 => ?_)
  refine hb ρ S1 io1 F1 σ H1 _ s1 (en.nxt n1) (RG.bind h1 fun d2 S2 io2 F2 H2 v2 e2 n2 s2 r2 h2 => ?_)
  exact s2.op2 hf (r1.mono n2.han n2.fr) r2 h2
theorem tst_go {K : PySem.W.Frag} {io : Io} {F : Hp} {S : Sto} {H : Hp} {d : Vl} {v : V} {Q : Bool → Hp → Prop} {E : XK} (st : Sta K io F S H) (r1 : RepV K io F d v) (h : RG K RepB (tst d S) io F H Q E) : ∃ k, v = .bl k ∧ Q k H := by
  cases d with
  | c k => exact h.elim
  | p x =>
    cases x with
    | bl b => exact ⟨b, r1, RG.val (R := RepB) (d := b) (v := b) st rfl h⟩
    | _ => exact h.elim
theorem ot_cmp {op : CmpOp} {r : R2} {f : P → P → Option P} (ho : OpR X (compareOp op) r) (hf : BinOk X.K r f) (ha : OE X W a ma) (hb : OE X W b mb) (hm : behindInMarks op b = false := by first | exact nomark _ | rfl) : OT X W (.Compare a [op] [b] pos) (tVal (eBin f ma mb)) := by
  obtain ⟨ta, pa, ha⟩ := ha
  obtain ⟨tb, pb, hb⟩ := hb
  refine ⟨tTest (tOp r ta tb), pt_cmpR ho pa pb hm, fun ρ S io F σ H Q st en h => ?_⟩
  have h : RG X.K RepB ((ma ρ S).bind fun x S1 => ((mb ρ S1).bind fun y S2 => op2 f x y S2).bind tst) io F H Q (fun c d H' => W c d σ H') := by
    unfold tVal eBin at h
    cases q : ma ρ S with
    | ok d S1 => rw [q] at h; exact h
    | exc c x S1 => rw [q] at h; exact h
    | bad => rw [q] at h; exact h
  refine ha ρ S io F σ H _ st en (RG.bind h fun d S1 io1 F1 H1 v e1 n1 s1 r1 h1 => ?_)
  have h1 : RG X.K RepB ((mb ρ S1).bind fun y S2 => (op2 f d y S2).bind tst) io1 F1 H1 Q (fun c d H' => W c d σ H') := by
    cases q : mb ρ S1 with
    | ok d S1 => rw [q] at h1; exact h1
    | exc c x S1 => rw [q] at h1; exact h1
    | bad => rw [q] at h1; exact h1
  refine hb ρ S1 io1 F1 σ H1 _ s1 (en.nxt n1) (RG.bind h1 fun d2 S2 io2 F2 H2 v2 e2 n2 s2 r2 h2 => ?_)
  refine s2.op2 (E := fun c d H' => W c d σ H') hf (r1.mono n2.han n2.fr) r2 (RG.bind h2 fun d3 S3 io3 F3 H3 v3 e3 n3 s3 r3 h3 => ?_)
  exact tst_go s3 r3 h3
theorem ot_val {e : Expr} {m : ME} (he : OE X W e m) (hs : ∀ whole, isTrue e X.env whole = (do let v ← whole; standAt e.pos; holding [v] (truthy v)) := by intro _; rfl) : OT X W e (tVal m) := by
  obtain ⟨t, p, he⟩ := he
  refine ⟨tB t, pt_val p hs, fun ρ S io F σ H Q st en h => ?_⟩
  exact he ρ S io F σ H _ st en (RG.bind h fun d S1 io1 F1 H1 v e1 n1 s1 r1 h1 => tst_go s1 r1 h1)
theorem ot_not (ha : OT X W a ta) : OT X W (.UnaryOp .Not a pos) (tNotM ta) := by
  obtain ⟨t, p, ha⟩ := ha
  refine ⟨_, pt_not p, fun ρ S io F σ H Q st en h => ?_⟩
  refine ha ρ S io F σ H _ st en (RG.bind h fun d S1 io1 F1 H1 v e1 n1 s1 r1 h1 => ?_)
  cases r1
  exact RG.val (R := RepB) (d := !d) (v := !d) s1 rfl h1
def OW (X : Cx) (W : WX) (e : Expr) (m : MT) : Prop := ∃ t, PW X e t ∧ ∀ (ρ : En) (S : Sto) (io : Io) (F : Hp) (σ : St) (H : Hp) (Q : Bool → Hp → Prop), Sta X.K io F S H → Mir.Env X.K io F ρ σ →
  RG X.K RepB (m ρ S) io F H Q (fun c d H' => W c d σ H') → t σ H Q
theorem ot_w {e : Expr} {m : MT} (h : OW X W e m) : OT X W e m := by
  obtain ⟨t, p, h⟩ := h
  exact ⟨t, p.pt, h⟩
theorem ow_and1 (ha : OT X W a ta) : OW X W (.BoolOp .And [a] pos) ta := by
  obtain ⟨t, p, ha⟩ := ha
  exact ⟨t, pw_and1 p, ha⟩
theorem ow_or1 (ha : OT X W a ta) : OW X W (.BoolOp .Or [a] pos) ta := by
  obtain ⟨t, p, ha⟩ := ha
  exact ⟨t, pw_or1 p, ha⟩
theorem ow_and {rest : List Expr} (ha : OT X W a ta) (hb : OW X W (.BoolOp .And (b :: rest) pos) tb) : OW X W (.BoolOp .And (a :: b :: rest) pos) (tAndM ta tb) := by
  obtain ⟨t, p, ha⟩ := ha
  obtain ⟨u, q, hb⟩ := hb
  refine ⟨_, pw_and p q, fun ρ S io F σ H Q st en h => ?_⟩
  refine ha ρ S io F σ H _ st en (RG.bind h fun d S1 io1 F1 H1 v e1 n1 s1 r1 h1 => ?_)
  cases r1
  cases d with
  | true => exact iteT (hb ρ S1 io1 F1 σ H1 Q s1 (en.nxt n1) h1)
  | false => exact iteF (RG.val (R := RepB) (d := false) (v := false) s1 rfl h1)
theorem ow_or {rest : List Expr} (ha : OT X W a ta) (hb : OW X W (.BoolOp .Or (b :: rest) pos) tb) : OW X W (.BoolOp .Or (a :: b :: rest) pos) (tOrM ta tb) := by
  obtain ⟨t, p, ha⟩ := ha
  obtain ⟨u, q, hb⟩ := hb
  refine ⟨_, pw_or p q, fun ρ S io F σ H Q st en h => ?_⟩
  refine ha ρ S io F σ H _ st en (RG.bind h fun d S1 io1 F1 H1 v e1 n1 s1 r1 h1 => ?_)
  cases r1
  cases d with
  | true => exact iteT (RG.val (R := RepB) (d := true) (v := true) s1 rfl h1)
  | false => exact iteF (hb ρ S1 io1 F1 σ H1 Q s1 (en.nxt n1) h1)
theorem oe_one {op} (ha : OE X W a ma) : OE X W (.BoolOp op [a] pos) ma := by
  obtain ⟨t, p, ha⟩ := ha
  exact ⟨t, pe_one p, ha⟩
theorem tst_bind {K : PySem.W.Frag} {io : Io} {F : Hp} {S : Sto} {H : Hp} {d : Vl} {v : V} {g : Bool → Sto → Res Vl} {Q : VK} {E : XK} (r1 : RepV K io F d v) (h : RG K (RepA K) ((tst d S).bind g) io F H Q E) : ∃ c, d = .p (.bl c) ∧ v = .bl c ∧ RG K (RepA K) (g c S) io F H Q E := by
  cases d with
  | c k => exact h.elim
  | p x =>
    cases x with
    | bl b => exact ⟨b, rfl, r1, h⟩
    | _ => exact h.elim
theorem oe_and {rest : List Expr} (ha : OE X W a ma) (hb : OE X W (.BoolOp .And (b :: rest) pos) mb) : OE X W (.BoolOp .And (a :: b :: rest) pos) (eAndM ma mb) := by
  obtain ⟨t, p, ha⟩ := ha
  obtain ⟨u, q, hb⟩ := hb
  refine ⟨_, pe_and p q, fun ρ S io F σ H Q st en h => ?_⟩
  refine ha ρ S io F σ H _ st en (RG.bind h fun d S1 io1 F1 H1 v e1 n1 s1 r1 h1 => ?_)
  obtain ⟨c, _, hv, h2⟩ := tst_bind r1 h1
  refine ⟨c, hv, ?_⟩
  cases c with
  | true => exact iteT (hb ρ S1 io1 F1 σ H1 Q s1 (en.nxt n1) h2)
  | false => exact iteF (RG.val (R := RepA X.K) (d := .p (.bl false)) s1 rfl h2)
theorem oe_or {rest : List Expr} (ha : OE X W a ma) (hb : OE X W (.BoolOp .Or (b :: rest) pos) mb) : OE X W (.BoolOp .Or (a :: b :: rest) pos) (eOrM ma mb) := by
  obtain ⟨t, p, ha⟩ := ha
  obtain ⟨u, q, hb⟩ := hb
  refine ⟨_, pe_or p q, fun ρ S io F σ H Q st en h => ?_⟩
  refine ha ρ S io F σ H _ st en (RG.bind h fun d S1 io1 F1 H1 v e1 n1 s1 r1 h1 => ?_)
  obtain ⟨c, _, hv, h2⟩ := tst_bind r1 h1
  refine ⟨c, hv, ?_⟩
  cases c with
  | true => exact iteT (RG.val (R := RepA X.K) (d := .p (.bl true)) s1 rfl h2)
  | false => exact iteF (hb ρ S1 io1 F1 σ H1 Q s1 (en.nxt n1) h2)
theorem oe_not (ha : OE X W a ma) : OE X W (.UnaryOp .Not a pos) (eNotM ma) := by
  obtain ⟨t, p, ha⟩ := ha
  refine ⟨_, pe_not p, fun ρ S io F σ H Q st en h => ?_⟩
  refine ha ρ S io F σ H _ st en (RG.bind h fun d S1 io1 F1 H1 v e1 n1 s1 r1 h1 => ?_)
  obtain ⟨c, _, hv, h2⟩ := tst_bind r1 h1
  exact ⟨c, hv, RG.val (R := RepA X.K) (d := .p (.bl (!c))) s1 rfl h2⟩
theorem oe_if (hc : OT X W c ta) (ha : OE X W a ma) (hb : OE X W b mb) : OE X W (.IfExp c a b pos) (eIfM ta ma mb) := by
  obtain ⟨t, p, hc⟩ := hc
  obtain ⟨u, q, ha⟩ := ha
  obtain ⟨u2, q2, hb⟩ := hb
  refine ⟨_, pe_ifExp p q q2, fun ρ S io F σ H Q st en h => ?_⟩
  refine hc ρ S io F σ H _ st en (RG.bind h fun d S1 io1 F1 H1 v e1 n1 s1 r1 h1 => ?_)
  cases r1
  cases d with
  | true => exact iteT (ha ρ S1 io1 F1 σ H1 Q s1 (en.nxt n1) h1)
  | false => exact iteF (hb ρ S1 io1 F1 σ H1 Q s1 (en.nxt n1) h1)
theorem oe_un {op : UnaryOp} {r : V → Hp → VK → Prop} {f : P → Option P} (ho : UnR X (unaryOp op) r) (hf : UnOk X.K r f) (ha : OE X W a ma) : OE X W (.UnaryOp op a pos) (eUn f ma) := by
  obtain ⟨t, p, ha⟩ := ha
  refine ⟨_, pe_un ho p, fun ρ S io F σ H Q st en h => ?_⟩
  exact ha ρ S io F σ H _ st en (RG.bind h fun d S1 io1 F1 H1 v e1 n1 s1 r1 h1 => s1.op1 hf r1 h1)
theorem oa_nil : OA X W [] aNil := ⟨_, pa_nil, fun ρ S io F σ H Q st en h => RG.val (R := RepAs X.K) (d := []) (v := []) st rfl h⟩
theorem oa_cons (ha : OE X W a ma) (hr : OA X W es mas) (hs : starEach (a :: es) X.env = (false, eval a X.env) :: starEach es X.env := by rfl) : OA X W (a :: es) (aCons ma mas) := by
  obtain ⟨t, p, ha⟩ := ha
  obtain ⟨u, q, hr⟩ := hr
  refine ⟨_, pa_cons p q hs, fun ρ S io F σ H Q st en h => ?_⟩
  refine ha ρ S io F σ H _ st en (RG.bind h fun d S1 io1 F1 H1 v e1 n1 s1 r1 h1 => ?_)
  refine hr ρ S1 io1 F1 σ H1 _ s1 (en.nxt n1) (RG.bind h1 fun d2 S2 io2 F2 H2 v2 e2 n2 s2 r2 h2 => ?_)
  exact RG.val (R := RepAs X.K) (d := d :: d2) s2 ⟨v, v2, rfl, r1.mono n2.han n2.fr, r2⟩ h2
end
section
variable {K : PySem.W.Frag} {io : Io} {F : Hp} {S : Sto} {H : Hp}
def FrzOk (K : PySem.W.Frag) (H : Hp) (io : Io) (f : Vl → Sto → Res P) : Prop := ∀ (F : Hp) (S S' : Sto) (d : Vl) (v : V) (x : P), Sta K io F S H → RepV K io F d v → f d S = .ok x S' → ∃ F', Nxt io F H io F' H ∧ Sta K io F' S' H ∧ Rep K F' x v
theorem FrzOk.seq {f : Vl → Sto → Res P} (hf : FrzOk K H io f) : ∀ {ds : List Vl} {vs : List V} {F : Hp} {S S' : Sto} {xs : List P}, Sta K io F S H → RepVs K io F ds vs → seqR f ds S = .ok xs S' → ∃ F', Nxt io F H io F' H ∧ Sta K io F' S' H ∧ RepL K F' xs vs
  | [], vs, F, S, S', xs, st, r, e => by
    cases e
    have r' : _ = _ := r
    subst r'
    exact ⟨F, Nxt.refl, st, .nil⟩
  | d :: ds, vs, F, S, S', xs, st, ⟨v, r, e1, h1, h2⟩, e => by
    subst e1
    have e : ((f d S).bind fun y S1 => (seqR f ds S1).bind fun ys S2 => Res.ok (y :: ys) S2) = .ok xs S' := e
    cases q : f d S with
    | bad => rw [q] at e; cases e
    | exc c x S1 => rw [q] at e; cases e
    | ok y S1 =>
      rw [q] at e
      have e : ((seqR f ds S1).bind fun ys S2 => Res.ok (y :: ys) S2) = .ok xs S' := e
      obtain ⟨F1, n1, s1, rp⟩ := hf _ _ _ _ _ _ st h1 q
      cases q2 : seqR f ds S1 with
      | bad => rw [q2] at e; cases e
      | exc c x S2 => rw [q2] at e; cases e
      | ok ys S2 =>
        rw [q2] at e
        cases e
        obtain ⟨F2, n2, s2, rps⟩ := FrzOk.seq hf s1 (h2.mono n1.han n1.fr) q2
        exact ⟨F2, n1.trans n2, s2, .cons (Rep.mono n2.fr rp) rps⟩
theorem frzN_ok : ∀ n, FrzOk K H io (frzN n)
  | 0 => fun F S S' d v x st r e => by
    cases d with
    | p y => cases e; exact ⟨F, Nxt.refl, st, r⟩
    | c k => cases e
  | n + 1 => fun F S S' d v x st r e => by
    cases d with
    | p y => cases e; exact ⟨F, Nxt.refl, st, r⟩
    | c k =>
      obtain ⟨a, ha, rfl⟩ := r
      unfold frzN at e
      dsimp only at e
      cases hk : S[k]? with
      | none => rw [hk] at e; cases e
      | some c =>
        rw [hk] at e
        cases c with
        | lst xs =>
          cases e
          obtain ⟨b, vs, hb, hF, hH, hr⟩ := st.cel k _ hk
          rw [ha] at hb
          cases hb
          have rp : Rep K (upd F a (.lst vs)) (.lst xs) (.ref a) := ⟨a, vs, rfl, upd_same, RepL.mono (upd_same_of hF) hr⟩
          obtain ⟨s2, n2⟩ := st.freeze ha hF hH rp
          exact ⟨_, n2, s2, rp⟩
        | dct ks xs =>
          cases e
          obtain ⟨b, vs, hb, hF, hH, hr, hr2⟩ := st.cel k _ hk
          rw [ha] at hb
          cases hb
          have rp : Rep K (upd F a (.dK vs)) (.dct ks xs) (.ref a) := ⟨a, vs, rfl, upd_same, RepL.mono (upd_same_of hF) hr, RepL.mono (upd_same_of hF) hr2⟩
          obtain ⟨s2, n2⟩ := st.freeze ha hF hH rp
          exact ⟨_, n2, s2, rp⟩
        | fz y =>
          cases e
          obtain ⟨b, hb, hr⟩ := st.cel k _ hk
          rw [ha] at hb
          cases hb
          exact ⟨F, Nxt.refl, st, hr⟩
        | tup ys =>
          cases e
          obtain ⟨b, vs, hb, hF, hr⟩ := st.cel k _ hk
          rw [ha] at hb
          cases hb
          exact ⟨F, Nxt.refl, st, a, vs, rfl, SqT.of hF, hr⟩
        | tpz ys =>
          cases e
          obtain ⟨b, vs, o, hb, hF, _, _, hr⟩ := st.cel k _ hk
          rw [ha] at hb
          cases hb
          exact ⟨F, Nxt.refl, st, a, vs, rfl, .inl (.inr ⟨o, hF⟩), hr⟩
        | dcT ks ys => cases e
        | dcN η ks ys => cases e
        | tbl p q => cases e
        | dvs _ => cases e
        | tblC _ _ _ => cases e
        | lsv xs =>
          dsimp only at e
          obtain ⟨b, vs, hb, hF, hH, hr, _⟩ := st.cel k _ hk
          rw [ha] at hb
          cases hb
          cases q : seqR (frzN n) xs S with
          | bad => rw [q] at e; cases e
          | exc c x S2 => rw [q] at e; cases e
          | ok ys S2 =>
            rw [q] at e
            have e : (match S2[k]? with
              | some (.lsv _) => Res.ok (P.lst ys) (S2.set k (.fz (.lst ys)))
              | _ => .bad) = .ok x S' := e
            obtain ⟨F3, n3, s3, rps⟩ := FrzOk.seq (frzN_ok n) st hr q
            split at e
            · rename_i xs' hk'
              cases e
              obtain ⟨b, vs', hb, hF', hH', _⟩ := s3.cel k _ hk'
              rw [ha] at hb
              cases hb
              rw [hH] at hH'
              cases hH'
              have rp : Rep K (upd F3 a (.lst vs)) (.lst ys) (.ref a) := ⟨a, vs, rfl, upd_same, RepL.mono (upd_same_of hF') rps⟩
              obtain ⟨s2, n2⟩ := s3.freeze ha hF' hH rp
              exact ⟨_, n3.trans n2, s2, rp⟩
            · cases e
        | ins cc ns xs =>
          dsimp only at e
          obtain ⟨b, dx, gs, hb, hF, hH, hn, hr, _⟩ := st.cel k _ hk
          rw [ha] at hb
          cases hb
          cases q : seqR (frzN n) xs S with
          | bad => rw [q] at e; cases e
          | exc c x S2 => rw [q] at e; cases e
          | ok ys S2 =>
            rw [q] at e
            have e : (match S2[k]? with
              | some (.ins c' ns' _) => if c' = cc ∧ ns' = ns then Res.ok (P.obj cc ns ys) (S2.set k (.fz (.obj cc ns ys))) else .bad
              | _ => .bad) = .ok x S' := e
            obtain ⟨F3, n3, s3, rps⟩ := FrzOk.seq (frzN_ok n) st hr q
            split at e
            · rename_i c' ns' xs' hk'
              split at e
              · rename_i hcn
                cases e
                obtain ⟨b, dx', gs', hb, hF', hH', _⟩ := s3.cel k _ hk'
                rw [ha] at hb
                cases hb
                have rp : Rep K (upd F3 a (.ins (He.ga K cc) dx gs)) (.obj cc ns ys) (.ref a) := ⟨a, dx, gs, rfl, upd_same, hn, RepL.mono (upd_same_of hF') rps⟩
                obtain ⟨s2, n2⟩ := s3.freeze ha hF' hH rp
                exact ⟨_, n3.trans n2, s2, rp⟩
              · cases e
            · cases e
        | res => cases e
theorem Sta.frz (st : Sta K io F S H) {d : Vl} {v : V} {C D : Type} {R' : Io → Hp → C → D → Prop} {g : P → Sto → Res C} {Q : D → Hp → Prop} {E : XK} (r1 : RepV K io F d v) (h : RG K R' ((Mir.frz d S).bind g) io F H Q E) :
    ∃ x S' F', Nxt io F H io F' H ∧ Sta K io F' S' H ∧ Rep K F' x v ∧ Mir.frz d S = .ok x S' ∧ RG K R' (g x S') io F' H Q E := by
  cases q : Mir.frz d S with
  | bad => rw [q] at h; exact h.elim
  | exc c x S1 => exact absurd q (frz_nox _ _ _ _ _)
  | ok x S1 =>
    rw [q] at h
    obtain ⟨F1, n1, s1, rp⟩ := frzN_ok 3 _ _ _ _ _ _ st r1 q
    exact ⟨x, S1, F1, n1, s1, rp, rfl, RG.step n1 h⟩
theorem Sta.frzs {C D : Type} {R' : Io → Hp → C → D → Prop} {Q : D → Hp → Prop} {E : XK} : ∀ {ds : List Vl} {vs : List V} {F : Hp} {S : Sto} {g : List P → Sto → Res C}, Sta K io F S H → RepVs K io F ds vs → RG K R' ((Mir.frzs ds S).bind g) io F H Q E →
    ∃ xs S' F', Nxt io F H io F' H ∧ Sta K io F' S' H ∧ RepL K F' xs vs ∧ RG K R' (g xs S') io F' H Q E
  | [], vs, F, S, g, st, r, h => by
    have r' : _ = _ := r
    subst r'
    exact ⟨[], S, F, Nxt.refl, st, .nil, h⟩
  | d :: ds, vs, F, S, g, st, ⟨v, r, e1, h1, h2⟩, h => by
    subst e1
    have h : RG K R' ((Mir.frz d S).bind fun y S1 => ((Mir.frzs ds S1).bind fun ys S2 => Res.ok (y :: ys) S2).bind g) io F H Q E := by
      have q : (Mir.frzs (d :: ds) S).bind g = (Mir.frz d S).bind fun y S1 => ((Mir.frzs ds S1).bind fun ys S2 => Res.ok (y :: ys) S2).bind g := by
        show ((Mir.frz d S).bind fun y S1 => (Mir.frzs ds S1).bind fun ys S2 => Res.ok (y :: ys) S2).bind g = _
        cases Mir.frz d S <;> rfl
      rw [← q]; exact h
    obtain ⟨x, S1, F1, n1, s1, rp, hl, h3⟩ := st.frz h1 h
    have h3 : RG K R' ((Mir.frzs ds S1).bind fun ys S2 => g (x :: ys) S2) io F1 H Q E := by
      have q : (Mir.frzs ds S1).bind (fun ys S2 => g (x :: ys) S2) = ((Mir.frzs ds S1).bind fun ys S2 => Res.ok (x :: ys) S2).bind g := by
        cases Mir.frzs ds S1 <;> rfl
      rw [q]; exact h3
    obtain ⟨xs, S2, F2, n2, s2, rps, h4⟩ := Sta.frzs s1 (h2.mono n1.han n1.fr) h3
    exact ⟨x :: xs, S2, F2, n1.trans n2, s2, .cons (Rep.mono n2.fr rp) rps, h4⟩
end
section
variable {X : Cx} {W : WX} {pos : Pos} {es : List Expr} {mas : MA}
theorem sz5 {n : Nat} (h : n ≤ 100000) : n ≤ sizeLine := Nat.le_trans h (by decide)
theorem sz5l {n : Nat} (h : n < 100000) : n < sizeLine := Nat.lt_of_lt_of_le h (by decide)
theorem oe_tup {k : Nat} (h : OA X W es mas) : OE X W (.Tuple es k pos) (eTup mas) := by
  obtain ⟨t, p, h⟩ := h
  refine ⟨_, pe_tup p, fun ρ S io F σ H Q st en hw => ?_⟩
  refine h ρ S io F σ H _ st en (RG.bind hw fun d S1 io1 F1 H1 v e1 n1 s1 r1 h1 => ?_)
  obtain ⟨xs, S2, F2, n2, s2, rp, h2⟩ := s1.frzs r1 h1
  have hlen := rp.length
  by_cases hz : xs.length ≤ 100000
  · rw [if_pos hz] at h2
    refine ⟨by rw [hlen]; exact sz5 hz, fun q hq => ?_⟩
    obtain ⟨s3, n3⟩ := s2.froze (o := .tup v) hq
    exact h2 io1 _ _ (.ref q) n3 s3 ⟨q, v, rfl, SqT.of upd_same, RepL.mono n3.fr rp⟩
  · rw [if_neg hz] at h2
    exact h2.elim
theorem oe_lst (h : OA X W es mas) : OE X W (.List es pos) (eLst mas) := by
  obtain ⟨t, p, h⟩ := h
  refine ⟨_, pe_lst p, fun ρ S io F σ H Q st en hw => ?_⟩
  refine h ρ S io F σ H _ st en (RG.bind hw fun d S1 io1 F1 H1 v e1 n1 s1 r1 h1 => ?_)
  obtain ⟨xs, S2, F2, n2, s2, rp, h2⟩ := s1.frzs r1 h1
  have hlen := rp.length
  by_cases hz : xs.length ≤ 100000
  · rw [if_pos hz] at h2
    refine ⟨by rw [hlen]; exact sz5 hz, fun q hq => ?_⟩
    obtain ⟨s3, n3⟩ := s2.froze (o := .lst v) hq
    exact h2 io1 _ _ (.ref q) n3 s3 ⟨q, v, rfl, upd_same, RepL.mono n3.fr rp⟩
  · rw [if_neg hz] at h2
    exact h2.elim
theorem oe_lstC (h : OA X W es mas) : OE X W (.List es pos) (eLstC mas) := by
  obtain ⟨t, p, h⟩ := h
  refine ⟨_, pe_lst p, fun ρ S io F σ H Q st en hw => ?_⟩
  refine h ρ S io F σ H _ st en (RG.bind hw fun d S1 io1 F1 H1 v e1 n1 s1 r1 h1 => ?_)
  obtain ⟨xs, S2, F2, n2, s2, rp, h2⟩ := s1.frzs r1 h1
  have hlen := rp.length
  by_cases hz : xs.length ≤ 100000
  · rw [if_pos hz] at h2
    refine ⟨by rw [hlen]; exact sz5 hz, fun q hq => ?_⟩
    have hi : (io1 ++ [some q])[S2.length]? = some (some q) := by rw [← s2.len]; simp
    obtain ⟨s3, n3⟩ := s2.push (o := .lst v) (c := .lst xs) hq ⟨q, v, hi, Same.free s2.sub hq, upd_same, rp⟩
    exact h2 _ _ _ (.ref q) n3 s3 ⟨q, hi, rfl⟩
  · rw [if_neg hz] at h2
    exact h2.elim
end
end Mir

namespace Mir
open PySem L2
mutual
def P.dat : P → Nat → Bool
  | .non, _ => true
  | .bl _, _ => true
  | .int _, _ => true
  | .str x, _ => x.all fun c => decide (c < 128)
  | .lst _, 0 => false
  | .lst xs, n + 1 => datL xs n
  | .tup _, 0 => false
  | .tup xs, n + 1 => datL xs n
  | _, _ => false
def datL : List P → Nat → Bool
  | [], _ => true
  | x :: xs, n => x.dat n && datL xs n
end
mutual
def P.toD : P → PyData
  | .non => .none
  | .bl b => .bool b
  | .int i => .int i
  | .str x => .str (strOf x)
  | .lst xs => .list (toDL xs)
  | .tup xs => .tuple (toDL xs)
  | .dct _ _ => .none
  | .obj _ _ _ => .none
  | .ty _ => .none
  | .glo _ => .none
  | .raw _ => .none
  | .rwp _ _ => .none
  | .scr _ => .none
def toDL : List P → List PyData
  | [] => []
  | x :: xs => x.toD :: toDL xs
end
mutual
def P.eqv : P → P → Bool
  | .non, .non => true
  | .bl a, .bl b => a == b
  | .bl a, .int j => (if a then 1 else 0) == j
  | .int i, .bl b => i == (if b then 1 else 0)
  | .int i, .int j => i == j
  | .str x, .str y => x == y
  | .lst xs, .lst ys => eqvL xs ys
  | .tup xs, .tup ys => eqvL xs ys
  | _, _ => false
def eqvL : List P → List P → Bool
  | [], [] => true
  | x :: xs, y :: ys => x.eqv y && eqvL xs ys
  | _, _ => false
end
section
variable {K : PySem.W.Frag} {F H : Hp}
mutual
theorem Rep.dp : ∀ {x : P} {v : V} {n : Nat}, x.dat n = true → Rep K H x v → Dp K H v x.toD
  | .non, v, n, _, h => by
    have h' : _ = _ := h
    subst h'
    exact .non
  | .bl b, v, n, _, h => by
    have h' : _ = _ := h
    subst h'
    exact .bl b
  | .int b, v, n, _, h => by
    have h' : _ = _ := h
    subst h'
    exact .int b
  | .str b, v, n, _, h => by
    have h' : _ = _ := h
    subst h'
    exact .str _
  | .lst xs, v, n + 1, hd, h => by
    obtain ⟨a, vs, rfl, h1, h2⟩ := h
    exact .lst (SqL.of h1) (RepL.dp hd h2)
  | .tup xs, v, n + 1, hd, h => by
    obtain ⟨a, vs, rfl, h1, h2⟩ := h
    exact .tup h1 (RepL.dp hd h2)
  | .lst xs, v, 0, hd, h => by cases hd
  | .tup xs, v, 0, hd, h => by cases hd
  | .dct _ _, v, n, hd, h => by cases hd
  | .obj _ _ _, v, n, hd, h => by cases hd
  | .ty _, v, n, hd, h => by cases hd
  | .glo _, v, n, hd, h => by cases hd
  | .raw _, v, n, hd, h => by cases hd
  | .rwp _ _, v, n, hd, h => by cases hd
  | .scr _, v, n, hd, h => by cases hd
theorem RepL.dp : ∀ {xs : List P} {vs : List V} {n : Nat}, datL xs n = true → RepL K H xs vs → DpAll K H vs (toDL xs)
  | [], vs, n, _, h => by
    have h' : _ = _ := h
    subst h'
    exact .nil
  | x :: xs, vs, n, hd, h => by
    obtain ⟨v, r, e1, h1, h2⟩ := h
    subst e1
    have hd' : (x.dat n && datL xs n) = true := hd
    rw [Bool.and_eq_true] at hd'
    exact .cons (Rep.dp hd'.1 h1) (RepL.dp hd'.2 h2)
end
theorem strOk_of {x : List Nat} (h : (x.all fun c => decide (c < 128)) = true) : (P.str x).toD.canLay0 = true := by
  show PyData.canLay0 (.str (strOf x)) = true
  simp only [PyData.canLay0]
  unfold PyData.strOk strOf
  simp only [List.all_eq_true, decide_eq_true_eq] at h
  simp only [List.all_toArray, List.all_eq_true, decide_eq_true_eq]
  exact fun c hc => Nat.lt_trans (h c hc) (by decide)
mutual
theorem P.lay : ∀ {x : P} {n : Nat}, x.dat n = true → x.toD.canLay0 = true
  | .non, n, _ => rfl
  | .bl b, n, _ => rfl
  | .int b, n, _ => rfl
  | .str b, n, h => strOk_of h
  | .lst xs, n + 1, hd => by
    show PyData.canLay0 (.list (toDL xs)) = true
    simp only [PyData.canLay0]
    exact layL hd
  | .tup xs, n + 1, hd => by
    show PyData.canLay0 (.tuple (toDL xs)) = true
    simp only [PyData.canLay0]
    exact layL hd
  | .lst xs, 0, hd => by cases hd
  | .tup xs, 0, hd => by cases hd
  | .dct _ _, n, hd => by cases hd
  | .obj _ _ _, n, hd => by cases hd
  | .ty _, n, hd => by cases hd
  | .glo _, n, hd => by cases hd
  | .raw _, n, hd => by cases hd
  | .rwp _ _, n, hd => by cases hd
  | .scr _, n, hd => by cases hd
theorem layL : ∀ {xs : List P} {n : Nat}, datL xs n = true → PyData.canLayAll0 (toDL xs) = true
  | [], n, _ => rfl
  | x :: xs, n, hd => by
    have hd' : (x.dat n && datL xs n) = true := hd
    rw [Bool.and_eq_true] at hd'
    show PyData.canLayAll0 (x.toD :: toDL xs) = true
    simp only [PyData.canLayAll0, Bool.and_eq_true]
    exact ⟨P.lay hd'.1, layL hd'.2⟩
end
mutual
theorem P.dep : ∀ {x : P} {n : Nat}, x.dat n = true → x.toD.depth ≤ n
  | .non, n, _ => Nat.zero_le _
  | .bl b, n, _ => Nat.zero_le _
  | .int b, n, _ => Nat.zero_le _
  | .str b, n, _ => Nat.zero_le _
  | .lst xs, n + 1, hd => by
    show PyData.depth (.list (toDL xs)) ≤ n + 1
    have := depL (xs := xs) (n := n) hd
    simp only [PyData.depth]
    omega
  | .tup xs, n + 1, hd => by
    show PyData.depth (.tuple (toDL xs)) ≤ n + 1
    have := depL (xs := xs) (n := n) hd
    simp only [PyData.depth]
    omega
  | .lst xs, 0, hd => by cases hd
  | .tup xs, 0, hd => by cases hd
  | .dct _ _, n, hd => by cases hd
  | .obj _ _ _, n, hd => by cases hd
  | .ty _, n, hd => by cases hd
  | .glo _, n, hd => by cases hd
  | .raw _, n, hd => by cases hd
  | .rwp _ _, n, hd => by cases hd
  | .scr _, n, hd => by cases hd
theorem depL : ∀ {xs : List P} {n : Nat}, datL xs n = true → PyData.depthAll (toDL xs) ≤ n
  | [], n, _ => Nat.zero_le _
  | x :: xs, n, hd => by
    have hd' : (x.dat n && datL xs n) = true := hd
    rw [Bool.and_eq_true] at hd'
    have h1 := P.dep hd'.1
    have h2 := depL hd'.2
    show PyData.depthAll (x.toD :: toDL xs) ≤ n
    simp only [PyData.depthAll]
    omega
end
theorem P.shp {x : P} {n : Nat} (hn : n ≤ 64) (h : x.dat n = true) : SeqAt.shaped x.toD = true := by
  unfold SeqAt.shaped
  rw [P.lay h, decide_eq_true (Nat.le_trans (P.dep h) hn)]
  rfl
theorem strOf_beq (x y : List Nat) : (strOf x == strOf y) = (x == y) := by
  by_cases h : x = y
  · subst h; simp
  · have h1 : strOf x ≠ strOf y := fun q => h (by
      have q' := congrArg (fun z : Str => z.cps.toList) q
      simpa [strOf] using q')
    rw [beq_eq_false_iff_ne.mpr h1, beq_eq_false_iff_ne.mpr h]
mutual
theorem P.eqD : ∀ {x y : P} {n m : Nat}, x.dat n = true → y.dat m = true → PyData.eqv x.toD y.toD = x.eqv y
  | .non, y, n, m, h1, h2 => by cases y <;> first | rfl | (cases h2)
  | .bl a, y, n, m, h1, h2 => by cases y <;> first | rfl | (cases h2)
  | .int a, y, n, m, h1, h2 => by cases y <;> first | rfl | (cases h2)
  | .str a, y, n, m, h1, h2 => by
    cases y with
    | str b => exact strOf_beq a b
    | non => rfl
    | bl _ => rfl
    | int _ => rfl
    | lst _ => rfl
    | tup _ => rfl
    | _ => cases h2
  | .lst xs, y, n + 1, m, h1, h2 => by
    cases y with
    | lst ys =>
      cases m with
      | zero => cases h2
      | succ m => exact eqDL h1 h2
    | non => rfl
    | bl _ => rfl
    | int _ => rfl
    | str _ => rfl
    | tup _ => rfl
    | _ => cases h2
  | .tup xs, y, n + 1, m, h1, h2 => by
    cases y with
    | tup ys =>
      cases m with
      | zero => cases h2
      | succ m => exact eqDL h1 h2
    | non => rfl
    | bl _ => rfl
    | int _ => rfl
    | str _ => rfl
    | lst _ => rfl
    | _ => cases h2
  | .lst xs, y, 0, m, h1, h2 => by cases h1
  | .tup xs, y, 0, m, h1, h2 => by cases h1
  | .dct _ _, y, n, m, h1, h2 => by cases h1
  | .obj _ _ _, y, n, m, h1, h2 => by cases h1
  | .ty _, y, n, m, h1, h2 => by cases h1
  | .glo _, y, n, m, h1, h2 => by cases h1
  | .raw _, y, n, m, h1, h2 => by cases h1
  | .rwp _ _, y, n, m, h1, h2 => by cases h1
  | .scr _, y, n, m, h1, h2 => by cases h1
theorem eqDL : ∀ {xs ys : List P} {n m : Nat}, datL xs n = true → datL ys m = true → PyData.eqvAll (toDL xs) (toDL ys) = eqvL xs ys
  | [], [], n, m, _, _ => rfl
  | [], y :: ys, n, m, _, _ => rfl
  | x :: xs, [], n, m, _, _ => rfl
  | x :: xs, y :: ys, n, m, h1, h2 => by
    have h1' : (x.dat n && datL xs n) = true := h1
    have h2' : (y.dat m && datL ys m) = true := h2
    rw [Bool.and_eq_true] at h1' h2'
    show (PyData.eqv x.toD y.toD && PyData.eqvAll (toDL xs) (toDL ys)) = (x.eqv y && eqvL xs ys)
    rw [P.eqD h1'.1 h2'.1, eqDL h1'.2 h2'.2]
end
end
def pEq (x y : P) : Option P := if x.dat 60 && y.dat 60 then some (.bl (x.eqv y)) else none
def pNe (x y : P) : Option P := if x.dat 60 && y.dat 60 then some (.bl (!x.eqv y)) else none
section
variable {X : Cx} {W : WX} {a b c : Expr} {ma mb mc : ME} {pos : Pos}
theorem ok_eqD {K : PySem.W.Frag} : BinOk K (rEqD K) pEq := by
  intro io F S H x y v w z Q st rx ry e k
  unfold pEq at e
  split at e
  · rename_i hd
    rw [Bool.and_eq_true] at hd
    cases e
    refine ⟨x.toD, y.toD, Rep.dp hd.1 (rx.now st.sub), Rep.dp hd.2 (ry.now st.sub), P.shp (by decide) hd.1, P.shp (by decide) hd.2, ?_⟩
    rw [P.eqD hd.1 hd.2]
    exact k F H _ Nxt.refl st rfl
  · cases e
theorem ok_neD {K : PySem.W.Frag} : BinOk K (rNeD K) pNe := by
  intro io F S H x y v w z Q st rx ry e k
  unfold pNe at e
  split at e
  · rename_i hd
    rw [Bool.and_eq_true] at hd
    cases e
    refine ⟨x.toD, y.toD, Rep.dp hd.1 (rx.now st.sub), Rep.dp hd.2 (ry.now st.sub), P.shp (by decide) hd.1, P.shp (by decide) hd.2, ?_⟩
    rw [P.eqD hd.1 hd.2]
    exact k F H _ Nxt.refl st rfl
  · cases e
theorem oe_eq {k : Nat} (hr : Room k X.A) (ha : OE X W a ma) (hb : OE X W b mb) : OE X W (.Compare a [.Eq] [b] pos) (eBin pEq ma mb) := oe_cmp (op_eqD hr.units) ok_eqD ha hb (nomark _)
theorem oe_ne {k : Nat} (hr : Room k X.A) (ha : OE X W a ma) (hb : OE X W b mb) : OE X W (.Compare a [.NotEq] [b] pos) (eBin pNe ma mb) := oe_cmp (op_neD hr.units) ok_neD ha hb (nomark _)
theorem ot_eq {k : Nat} (hr : Room k X.A) (ha : OE X W a ma) (hb : OE X W b mb) : OT X W (.Compare a [.Eq] [b] pos) (tVal (eBin pEq ma mb)) := ot_cmp (op_eqD hr.units) ok_eqD ha hb (nomark _)
theorem ot_ne {k : Nat} (hr : Room k X.A) (ha : OE X W a ma) (hb : OE X W b mb) : OT X W (.Compare a [.NotEq] [b] pos) (tVal (eBin pNe ma mb)) := ot_cmp (op_neD hr.units) ok_neD ha hb (nomark _)
end
def int2 (f : Int → Int → Option P) (x y : P) : Option P := match x with
  | .int i => (match y with
    | .int j => f i j
    | _ => none)
  | _ => none
def pI (g : Int → Int → Int) : P → P → Option P := int2 fun i j => some (.int (g i j))
def pIC (C : Int → Int → Bool) (g : Int → Int → Int) : P → P → Option P := int2 fun i j => if C i j then some (.int (g i j)) else none
def pIB (g : Int → Int → Bool) : P → P → Option P := int2 fun i j => some (.bl (g i j))
section
variable {K : PySem.W.Frag} {F : Hp} {H : Hp}
theorem two_int {x y : P} {v w : V} {z : P} {f : Int → Int → Option P} (rx : RepR K F H x v) (ry : RepR K F H y w) (e : int2 f x y = some z) : ∃ i j, v = .int i ∧ w = .int j ∧ f i j = some z := by
  cases x with
  | int i =>
    cases y with
    | int j => exact ⟨i, j, rx, ry, e⟩
    | _ => cases e
  | _ => cases e
theorem ok_I0 {g : Int → Int → Int} : BinOk K (rI0 fun i j => .int (g i j)) (pI g) := by
  intro io F S H x y v w z Q st rx ry e k
  obtain ⟨i, j, rfl, rfl, e⟩ := two_int rx ry e
  cases e
  exact ⟨i, j, rfl, rfl, k F H _ Nxt.refl st rfl⟩
theorem ok_B0 {g : Int → Int → Bool} : BinOk K (rI0 fun i j => .bl (g i j)) (pIB g) := by
  intro io F S H x y v w z Q st rx ry e k
  obtain ⟨i, j, rfl, rfl, e⟩ := two_int rx ry e
  cases e
  exact ⟨i, j, rfl, rfl, k F H _ Nxt.refl st rfl⟩
theorem ok_IC {C : Int → Int → Prop} {B : Int → Int → Bool} {g : Int → Int → Int} (hB : ∀ i j, B i j = true → C i j) : BinOk K (rI C fun i j => .int (g i j)) (pIC B g) := by
  intro io F S H x y v w z Q st rx ry e k
  obtain ⟨i, j, rfl, rfl, e⟩ := two_int rx ry e
  split at e
  · rename_i hb
    cases e
    exact ⟨i, j, rfl, rfl, hB i j hb, k F H _ Nxt.refl st rfl⟩
  · cases e
end
def bMul (i j : Int) : Bool := (decide (-(2 ^ 64) < i) && decide (i < 2 ^ 64)) || (decide (-(2 ^ 64) < j) && decide (j < 2 ^ 64))
def bDiv (_ j : Int) : Bool := decide (0 < j) && decide (j < 1073741824)
def bPow (i j : Int) : Bool := decide (0 ≤ j) && (decide (j ≤ 1000000) && decide (i.natAbs < 2 ^ 64))
def bMod (_ j : Int) : Bool := decide (0 < j)
def bShr (_ j : Int) : Bool := decide (0 ≤ j)
theorem bMul_ok (i j : Int) (h : bMul i j = true) : CMul i j := by
  unfold bMul at h
  simp only [Bool.or_eq_true, Bool.and_eq_true, decide_eq_true_eq] at h
  exact h
theorem bDiv_ok (i j : Int) (h : bDiv i j = true) : CDiv i j := by
  unfold bDiv at h
  simp only [Bool.and_eq_true, decide_eq_true_eq] at h
  exact h
theorem bPow_ok (i j : Int) (h : bPow i j = true) : CPow i j := by
  unfold bPow at h
  simp only [Bool.and_eq_true, decide_eq_true_eq] at h
  exact h
def pAdd : P → P → Option P
  | .int i, .int j => some (.int (i + j))
  | .str x, .str y => if x.length + y.length ≤ 100000 then some (.str (x ++ y)) else none
  | .lst x, .lst y => if x.length + y.length ≤ 100000 then some (.lst (x ++ y)) else none
  | .tup x, .tup y => if x.length + y.length ≤ 100000 then some (.tup (x ++ y)) else none
  | _, _ => none
def rAddAny (K : PySem.W.Frag) : R2 := fun x y H Q => ((rI0 fun i j => .int (i + j)) x y H Q ∨ (fun x y H Q => ∃ i j, x = V.str i ∧ y = V.str j ∧ i.length + j.length ≤ sizeLine ∧ Q (V.str (i ++ j)) H) x y H Q) ∨ (rCat x y H Q ∨ rCatA K x y H Q)
theorem op_addAny {X : Cx} : OpR X (binaryOp .Add) (rAddAny X.K) := OpR.or (OpR.or op_add op_add_str) (OpR.or op_cat op_catA)
theorem strOf_length (x : List Nat) : (strOf x).length = x.length := by
  show x.toArray.size = x.length
  simp
theorem strOf_append (x y : List Nat) : strOf x ++ strOf y = strOf (x ++ y) := by
  show (⟨x.toArray ++ y.toArray⟩ : Str) = ⟨(x ++ y).toArray⟩
  simp
section
variable {K : PySem.W.Frag}
theorem ok_add : BinOk K (rAddAny K) pAdd := by
  intro io F S H x y v w z Q st rx ry e k
  cases x with
  | int i =>
    cases y with
    | int j =>
      cases e
      have rx : _ = _ := rx
      have ry : _ = _ := ry
      subst rx; subst ry
      exact .inl (.inl ⟨i, j, rfl, rfl, k F H _ Nxt.refl st rfl⟩)
    | _ => cases e
  | str i =>
    cases y with
    | str j =>
      have e : (if i.length + j.length ≤ 100000 then some (P.str (i ++ j)) else none) = some z := e
      split at e
      · rename_i hz
        cases e
        have rx : _ = _ := rx
        have ry : _ = _ := ry
        subst rx; subst ry
        refine .inl (.inr ⟨_, _, rfl, rfl, by rw [strOf_length, strOf_length]; exact sz5 hz, ?_⟩)
        rw [strOf_append]
        exact k F H _ Nxt.refl st rfl
      · cases e
    | _ => cases e
  | lst i =>
    cases y with
    | lst j =>
      have e : (if i.length + j.length ≤ 100000 then some (P.lst (i ++ j)) else none) = some z := e
      split at e
      · rename_i hz
        cases e
        obtain ⟨a, vs, rfl, ha, ra⟩ := rx
        obtain ⟨b, ws, rfl, hb, rb⟩ := ry
        refine .inr (.inl ⟨a, b, vs, ws, rfl, rfl, ha, hb, by rw [ra.length, rb.length]; exact sz5 hz, fun p hp => ?_⟩)
        obtain ⟨s3, n3⟩ := st.froze (o := .lst (vs ++ ws)) hp
        exact k _ _ _ n3 s3 ⟨p, _, rfl, upd_same, RepL.mono n3.fr (ra.append rb)⟩
      · cases e
    | _ => cases e
  | tup i =>
    cases y with
    | tup j =>
      have e : (if i.length + j.length ≤ 100000 then some (P.tup (i ++ j)) else none) = some z := e
      split at e
      · rename_i hz
        cases e
        obtain ⟨a, vs, rfl, ha, ra⟩ := rx
        obtain ⟨b, ws, rfl, hb, rb⟩ := ry
        have l1 := ra.length
        have l2 := rb.length
        refine .inr (.inr ⟨a, b, vs, ws, rfl, rfl, sqt_mono st.sub ha, sqt_mono st.sub hb, by rw [l1, l2]; exact sz5 hz, fun h0 => ?_, fun h0 h1 => ?_, fun h0 h1 p hp => ?_⟩)
        · subst h0
          have : i = [] := List.length_eq_zero_iff.mp l1.symm
          subst this
          exact k F H _ Nxt.refl st ⟨b, ws, rfl, hb, rb⟩
        · subst h1
          have : j = [] := List.length_eq_zero_iff.mp l2.symm
          subst this
          rw [List.append_nil] at k
          exact k F H _ Nxt.refl st ⟨a, vs, rfl, ha, ra⟩
        · obtain ⟨s3, n3⟩ := st.froze (o := .tup (vs ++ ws)) hp
          exact k _ _ _ n3 s3 ⟨p, _, rfl, SqT.of upd_same, RepL.mono n3.fr (ra.append rb)⟩
      · cases e
    | _ => cases e
  | _ => cases e
end
section
variable {X : Cx} {W : WX} {a b c : Expr} {ma mb mc : ME} {pos : Pos}
theorem oe_add (ha : OE X W a ma) (hb : OE X W b mb) : OE X W (.BinOp a .Add b pos) (eBin pAdd ma mb) := oe_bin op_addAny ok_add ha hb
theorem oe_sub (ha : OE X W a ma) (hb : OE X W b mb) : OE X W (.BinOp a .Sub b pos) (eBin (pI fun i j => i - j) ma mb) := oe_bin op_sub ok_I0 ha hb
theorem oe_fdiv (ha : OE X W a ma) (hb : OE X W b mb) : OE X W (.BinOp a .FloorDiv b pos) (eBin (pIC bDiv fun i j => i / j) ma mb) := oe_bin op_fdiv (ok_IC bDiv_ok) ha hb
theorem oe_mod (ha : OE X W a ma) (hb : OE X W b mb) : OE X W (.BinOp a .Mod b pos) (eBin (pIC bMod fun i j => i % j) ma mb) := oe_bin op_mod (ok_IC fun _ _ h => of_decide_eq_true h) ha hb
theorem oe_pow (ha : OE X W a ma) (hb : OE X W b mb) : OE X W (.BinOp a .Pow b pos) (eBin (pIC bPow fun i j => i ^ j.toNat) ma mb) := oe_bin op_pow (ok_IC bPow_ok) ha hb
theorem oe_shl (ha : OE X W a ma) (hb : OE X W b mb) : OE X W (.BinOp a .LShift b pos) (eBin (pIC bPow fun i j => i * 2 ^ j.toNat) ma mb) := oe_bin op_shl (ok_IC bPow_ok) ha hb
theorem oe_shr (ha : OE X W a ma) (hb : OE X W b mb) : OE X W (.BinOp a .RShift b pos) (eBin (pIC bShr fun i j => i / 2 ^ j.toNat) ma mb) := oe_bin op_shr (ok_IC fun _ _ h => of_decide_eq_true h) ha hb
theorem oe_band (ha : OE X W a ma) (hb : OE X W b mb) : OE X W (.BinOp a .BitAnd b pos) (eBin (pI Builtin.bitAnd) ma mb) := oe_bin op_and ok_I0 ha hb
theorem oe_lt (ha : OE X W a ma) (hb : OE X W b mb) : OE X W (.Compare a [.Lt] [b] pos) (eBin (pIB fun i j => decide (i < j)) ma mb) := oe_cmp op_lt ok_B0 ha hb (nomark _)
theorem oe_ge (ha : OE X W a ma) (hb : OE X W b mb) : OE X W (.Compare a [.GtE] [b] pos) (eBin (pIB fun i j => decide (j ≤ i)) ma mb) := oe_cmp op_ge ok_B0 ha hb (nomark _)
theorem ot_lt (ha : OE X W a ma) (hb : OE X W b mb) : OT X W (.Compare a [.Lt] [b] pos) (tVal (eBin (pIB fun i j => decide (i < j)) ma mb)) := ot_cmp op_lt ok_B0 ha hb (nomark _)
theorem ot_gt (ha : OE X W a ma) (hb : OE X W b mb) : OT X W (.Compare a [.Gt] [b] pos) (tVal (eBin (pIB fun i j => decide (j < i)) ma mb)) := ot_cmp op_gt ok_B0 ha hb (nomark _)
theorem ot_ge (ha : OE X W a ma) (hb : OE X W b mb) : OT X W (.Compare a [.GtE] [b] pos) (tVal (eBin (pIB fun i j => decide (j ≤ i)) ma mb)) := ot_cmp op_ge ok_B0 ha hb (nomark _)
def pNeg : P → Option P
  | .int i => some (.int (-i))
  | _ => none
def pInv : P → Option P
  | .int i => some (.int (Builtin.bitNot i))
  | _ => none
theorem ok_neg {K : PySem.W.Frag} : UnOk K (rU fun i => .int (-i)) pNeg := by
  intro io F S H x v z Q st rx e k
  cases x with
  | int i =>
    cases e
    exact ⟨i, rx, k F H _ Nxt.refl st rfl⟩
  | _ => cases e
theorem ok_inv {K : PySem.W.Frag} : UnOk K (rU fun i => .int (Builtin.bitNot i)) pInv := by
  intro io F S H x v z Q st rx e k
  cases x with
  | int i =>
    cases e
    exact ⟨i, rx, k F H _ Nxt.refl st rfl⟩
  | _ => cases e
theorem oe_neg (ha : OE X W a ma) : OE X W (.UnaryOp .USub a pos) (eUn pNeg ma) := oe_un un_neg ok_neg ha
theorem oe_inv (ha : OE X W a ma) : OE X W (.UnaryOp .Invert a pos) (eUn pInv ma) := oe_un un_inv ok_inv ha
def isN (x : Vl) : Bool := match x with
  | .p .non => true
  | _ => false
def eIsN (a : ME) : ME := fun ρ S => (a ρ S).bind fun x S1 => .ok (.p (.bl (isN x))) S1
def eNotN (a : ME) : ME := fun ρ S => (a ρ S).bind fun x S1 => .ok (.p (.bl (!isN x))) S1
theorem isN_ok {K : PySem.W.Frag} {io : Io} {F : Hp} {d : Vl} {v : V} (r : RepV K io F d v) : decide (v = .non) = isN d := by
  cases d with
  | c k =>
    obtain ⟨a, _, rfl⟩ := r
    exact decide_eq_false fun q => nomatch q
  | p x =>
    cases x with
    | non =>
      have r : _ = _ := r
      subst r
      rfl
    | bl _ =>
      have r : _ = _ := r
      subst r
      exact decide_eq_false fun q => nomatch q
    | int _ =>
      have r : _ = _ := r
      subst r
      exact decide_eq_false fun q => nomatch q
    | str _ =>
      have r : _ = _ := r
      subst r
      exact decide_eq_false fun q => nomatch q
    | tup _ =>
      obtain ⟨a, _, rfl, _⟩ := r
      exact decide_eq_false fun q => nomatch q
    | lst _ =>
      obtain ⟨a, _, rfl, _⟩ := r
      exact decide_eq_false fun q => nomatch q
    | dct _ _ =>
      obtain ⟨a, _, rfl, _⟩ := r
      exact decide_eq_false fun q => nomatch q
    | obj _ _ _ =>
      obtain ⟨a, _, _, rfl, _⟩ := r
      exact decide_eq_false fun q => nomatch q
    | scr _ =>
      obtain ⟨a, _, rfl, _⟩ := r
      exact decide_eq_false fun q => nomatch q
    | ty _ =>
      have r : _ = _ := r
      subst r
      exact decide_eq_false fun q => nomatch q
    | glo _ =>
      have r : _ = _ := r
      subst r
      exact decide_eq_false fun q => nomatch q
    | rwp _ _ =>
      obtain ⟨a, _, _, rfl, _⟩ := r
      exact decide_eq_false fun q => nomatch q
    | raw _ =>
      have r : _ = _ := r
      subst r
      exact decide_eq_false fun q => nomatch q
theorem ot_isN {j : Nat} {p2 : Pos} (ha : OE X W a ma) : OT X W (.Compare a [.Is] [.Constant .none j p2] pos) (tVal (eIsN ma)) := by
  obtain ⟨t, p, ha⟩ := ha
  refine ⟨_, pt_cmp (pc_isN p), fun ρ S io F σ H Q st en h => ?_⟩
  have h : RG X.K RepB ((ma ρ S).bind fun x S1 => Res.ok (isN x) S1) io F H Q (fun c d H' => W c d σ H') := by
    unfold tVal eIsN at h
    cases q : ma ρ S with
    | ok d S1 => rw [q] at h; exact h
    | exc c x S1 => rw [q] at h; exact h
    | bad => rw [q] at h; exact h
  refine ha ρ S io F σ H _ st en (RG.bind h fun d S1 io1 F1 H1 v e1 n1 s1 r1 h1 => ?_)
  refine ⟨isN d, by rw [isN_ok r1], RG.val (R := RepB) (d := isN d) (v := isN d) s1 rfl h1⟩
end
end Mir

namespace Mir
open PySem L2
def RepRs (K : PySem.W.Frag) (F H : Hp) : List P → List V → Prop
  | [], vs => vs = []
  | x :: xs, vs => ∃ v r, vs = v :: r ∧ RepR K F H x v ∧ RepRs K F H xs r
def rds (S : Sto) : List Vl → Option (List P)
  | [] => some []
  | d :: ds => (rd S d).bind fun x => (rds S ds).bind fun xs => some (x :: xs)
def call1 (f : List P → Option P) (ds : List Vl) (S : Sto) : Res Vl := match rds S ds with
  | some xs => (match f xs with
    | some z => .ok (.p z) S
    | none => .bad)
  | none => .bad
def eCall (f : List P → Option P) (a : MA) : ME := fun ρ S => (a ρ S).bind fun ds S1 => call1 f ds S1
def CallOk (K : PySem.W.Frag) (r : List V → Hp → VK → Prop) (f : List P → Option P) : Prop := ∀ (io : Io) (F : Hp) (S : Sto) (H : Hp) (xs : List P) (vs : List V) (z : P) (Q : VK), Sta K io F S H → RepRs K F H xs vs → f xs = some z →
  (∀ F' H' u, Nxt io F H io F' H' → Sta K io F' S H' → Rep K F' z u → Q u H') → r vs H Q
section
variable {K : PySem.W.Frag} {io : Io} {F : Hp} {S : Sto} {H : Hp}
theorem Sta.rds (st : Sta K io F S H) : ∀ {ds : List Vl} {vs : List V} {xs : List P}, RepVs K io F ds vs → Mir.rds S ds = some xs → RepRs K F H xs vs
  | [], vs, xs, h, e => by
    have e' : [] = xs := Option.some.inj e
    subst e'
    exact h
  | d :: ds, vs, xs, ⟨v, r, e1, h1, h2⟩, e => by
    subst e1
    have e : ((Mir.rd S d).bind fun x => (Mir.rds S ds).bind fun xs => some (x :: xs)) = some xs := e
    cases q : Mir.rd S d with
    | none => rw [q] at e; cases e
    | some x =>
      rw [q] at e
      cases q2 : Mir.rds S ds with
      | none => rw [q2] at e; cases e
      | some ys =>
        rw [q2] at e
        have e' : x :: ys = xs := Option.some.inj e
        subst e'
        exact ⟨v, r, rfl, st.rd h1 q, Sta.rds st h2 q2⟩
theorem Sta.call1 {r : List V → Hp → VK → Prop} {f : List P → Option P} {ds : List Vl} {vs : List V} {Q : VK} {E : XK} (hf : CallOk K r f) (st : Sta K io F S H) (r1 : RepVs K io F ds vs)
    (h : RG K (RepA K) (Mir.call1 f ds S) io F H Q E) : r vs H Q := by
  unfold Mir.call1 at h
  cases e1 : Mir.rds S ds with
  | none => rw [e1] at h; exact h.elim
  | some x =>
    rw [e1] at h
    dsimp only at h
    cases e3 : f x with
    | none => rw [e3] at h; exact h.elim
    | some z =>
      rw [e3] at h
      exact hf io F S H x vs z Q st (st.rds r1 e1) e3 fun F' H' u n s rp => h io F' H' u n s rp
theorem RepRs.one {x : P} {vs : List V} (h : RepRs K F H [x] vs) : ∃ v, vs = [v] ∧ RepR K F H x v := by
  obtain ⟨v, r, e, h1, h2⟩ := h
  have h2 : r = [] := h2
  subst h2
  exact ⟨v, e, h1⟩
theorem RepRs.two {x y : P} {vs : List V} (h : RepRs K F H [x, y] vs) : ∃ v w, vs = [v, w] ∧ RepR K F H x v ∧ RepR K F H y w := by
  obtain ⟨v, r, e, h1, h2⟩ := h
  obtain ⟨w, rfl, h3⟩ := h2.one
  exact ⟨v, w, e, h1, h3⟩
end
section
variable {X : Cx} {W : WX} {a b c e o : Expr} {ma mb mc mo : ME} {pos : Pos} {es : List Expr} {mas : MA}
theorem oe_callB {x : Str} {id : String} {p : Pos} {r : List V → Hp → VK → Prop} {f : List P → Option P} (hc : CallR X (.builtin id) r) (hf : CallOk X.K r f) (hm : X.mg x = none) (hv : bootBuiltins x = some (.builtin id)) (ha : OA X W (e :: es) mas)
    (hg : Gl X x := by rfl) (hn : x ≠ "__name__" := by decide) (hdb : (x == ("__debug__" : Str)) = false := by decide) (hs : starEach (e :: es) X.env = (false, eval e X.env) :: starEach es X.env := by rfl) (hplain : (backTo pos (starEach es X.env)).any (·.1) = false := by rfl) :
    OE X W (.Call (.Name x p) (e :: es) [] pos) (eCall f mas) := by
  obtain ⟨t, q, ha⟩ := ha
  refine ⟨_, pe_callB hc hg hm hv q hn hdb hs hplain, fun ρ S io F σ H Q st en h => ?_⟩
  exact ha ρ S io F σ H _ st en (RG.bind h fun d S1 io1 F1 H1 v e1 n1 s1 r1 h1 => s1.call1 hf r1 h1)
theorem oe_callTy {x : Str} {T : String} {p : Pos} {r : List V → Hp → VK → Prop} {f : List P → Option P} (hc : CallR X (.type T) r) (hf : CallOk X.K r f) (hm : X.mg x = none) (hv : bootBuiltins x = some (.type T)) (ha : OA X W (e :: es) mas)
    (hg : Gl X x := by rfl) (hn : x ≠ "__name__" := by decide) (hdb : (x == ("__debug__" : Str)) = false := by decide) (hs : starEach (e :: es) X.env = (false, eval e X.env) :: starEach es X.env := by rfl) (hplain : (backTo pos (starEach es X.env)).any (·.1) = false := by rfl) :
    OE X W (.Call (.Name x p) (e :: es) [] pos) (eCall f mas) := by
  obtain ⟨t, q, ha⟩ := ha
  refine ⟨_, pe_callTy hc hg hm hv q hn hdb hs hplain, fun ρ S io F σ H Q st en h => ?_⟩
  exact ha ρ S io F σ H _ st en (RG.bind h fun d S1 io1 F1 H1 v e1 n1 s1 r1 h1 => s1.call1 hf r1 h1)
def tyP (T : String) : P → Bool
  | .str _ => T == "str"
  | .int _ => T == "int"
  | .lst _ => T == "list"
  | .dct _ _ => T == "dict"
  | _ => false
theorem tyP_ok {K : PySem.W.Frag} {F H : Hp} {T : String} {x : P} {v : V} (h : tyP T x = true) (r : RepR K F H x v) : tyV K T v H := by
  cases x with
  | str _ =>
    have r : _ = _ := r
    subst r
    have h' : (T == "str") = true := h
    exact eq_of_beq h'
  | int _ =>
    have r : _ = _ := r
    subst r
    have h' : (T == "int") = true := h
    exact eq_of_beq h'
  | lst _ =>
    obtain ⟨a, vs, rfl, h1, _⟩ := r
    have h' : (T == "list") = true := h
    exact .inl ⟨eq_of_beq h', vs, SqL.of h1⟩
  | dct _ _ =>
    obtain ⟨a, vs, rfl, h1, _⟩ := r
    have h' : (T == "dict") = true := h
    exact .inr (.inr (.inl ⟨eq_of_beq h', .inl ⟨vs, h1⟩⟩))
  | _ => cases h
def rM (r : V → List V → Hp → VK → Prop) : List V → Hp → VK → Prop := fun vs H Q => match vs with
  | x :: xs => r x xs H Q
  | [] => False
def eMthT (T : String) (f : P → List P → Option P) (o : ME) (a : MA) : ME := fun ρ S => (o ρ S).bind fun d S1 => match rd S1 d with
  | some x => if tyP T x then (a ρ S1).bind fun ds S2 => call1 (fun xs => match xs with
    | x :: r => f x r
    | [] => none) (d :: ds) S2 else .bad
  | none => .bad
theorem oe_bm {T id : String} {name : Str} {apos : Pos} {r : V → List V → Hp → VK → Prop} {f : P → List P → Option P} (pa : PlainAttrs T) (slot : Slot T name id) (hty : typeOf (.builtin id) = pure (.type "method_descriptor")) (hm : MtR X id r)
    (hf : CallOk X.K (rM r) fun xs => match xs with
      | x :: r => f x r
      | [] => none) (ho : OE X W o mo) (ha : OA X W (e :: es) mas)
    (hbase : attributeBase o name X.env (eval o X.env) = eval o X.env := by rfl)
    (hfew : ((backTo pos (starEach (e :: es) X.env)).all (fun x => !x.1) && (backToKw pos (keywordEach [] X.env)).all (fun x => x.1.isSome)
      && decide ((e :: es).length + ([] : List Keyword).length + (if ([] : List Keyword).isEmpty then 0 else 1) < 30)) = true := by rfl)
    (hline : (apos.endLine == pos.line) = true := by rfl) (hs : starEach (e :: es) X.env = (false, eval e X.env) :: starEach es X.env := by rfl) (hplain : (backTo pos (starEach es X.env)).any (·.1) = false := by rfl) :
    OE X W (.Call (.Attribute o name apos) (e :: es) [] pos) (eMthT T f mo mas) := by
  obtain ⟨u, p, ho⟩ := ho
  obtain ⟨t, q, ha⟩ := ha
  refine ⟨_, pe_bm pa slot hty hm p q hbase hfew hline hs hplain, fun ρ S io F σ H Q st en h => ?_⟩
  refine ho ρ S io F σ H _ st en (RG.bind h fun d S1 io1 F1 H1 v e1 n1 s1 r1 h1 => ?_)
  cases q1 : rd S1 d with
  | none => rw [q1] at h1; exact h1.elim
  | some x =>
    rw [q1] at h1
    dsimp only at h1
    by_cases q2 : tyP T x = true
    · rw [if_pos q2] at h1
      refine ⟨tyP_ok q2 (s1.rd r1 q1), ?_⟩
      refine ha ρ S1 io1 F1 σ H1 _ s1 (en.nxt n1) (RG.bind h1 fun d2 S2 io2 F2 H2 v2 e2 n2 s2 r2 h2 => ?_)
      exact s2.call1 hf (ds := d :: d2) (vs := v :: v2) ⟨v, v2, rfl, r1.mono n2.han n2.fr, r2⟩ h2
    · rw [if_neg q2] at h1
      exact h1.elim
theorem IxR.or {r r' : R2} (h : IxR X r) (h' : IxR X r') : IxR X (fun x y H Q => r x y H Q ∨ r' x y H Q) := by
  intro value slice pins s σ H x y v u Q I rx ry q hs
  rcases q with q | q
  · exact h value slice pins s σ H x y v u Q I rx ry q hs
  · exact h' value slice pins s σ H x y v u Q I rx ry q hs
def pIx : P → P → Option P
  | .lst xs, .int i => atI xs i
  | .scr xs, .int i => atI xs i
  | .tup xs, .int i => atI xs i
  | .str x, .int i => if x.length ≤ 100000 then (atI x i).map fun c => .str [c] else none
  | _, _ => none
theorem atI_rep {K : PySem.W.Frag} {F : Hp} {xs : List P} {vs : List V} {i : Int} {z : P} (r : RepL K F xs vs) (e : atI xs i = some z) : ∃ v, atI vs i = some v ∧ Rep K F z v := by
  obtain ⟨j, h1, h2, h3, h4, h5⟩ := atI_get e
  obtain ⟨v, hv, hr⟩ := r.get h2
  refine ⟨v, ?_, hr⟩
  unfold atI at e ⊢
  rw [r.length]
  cases q : ixN xs.length i with
  | none => rw [q] at e; cases e
  | some k =>
    rw [q] at e
    have e : xs[k]? = some z := e
    obtain ⟨w, hw, hrw⟩ := r.get e
    have q2 := (ixN_seq q).1
    rw [h1] at q2
    cases q2
    show vs[j]? = some v
    exact hv
theorem ok_ix {K : PySem.W.Frag} : BinOk K (fun x y H Q => (rIxL K x y H Q ∨ rIxT K x y H Q) ∨ rIxS x y H Q) pIx := by
  intro io F S H x y v w z Q st rx ry e k
  cases y with
  | int i =>
    have ry : _ = _ := ry
    subst ry
    cases x with
    | lst xs =>
      obtain ⟨a, vs, rfl, ha, ra⟩ := rx
      obtain ⟨u, hu, hr⟩ := atI_rep ra e
      exact .inl (.inl ⟨a, vs, i, u, rfl, rfl, SqL.of ha, hu, k F H u Nxt.refl st hr⟩)
    | scr xs =>
      obtain ⟨a, vs, rfl, ha, ra⟩ := rx
      obtain ⟨u, hu, hr⟩ := atI_rep ra e
      exact .inl (.inl ⟨a, vs, i, u, rfl, rfl, sql_mono st.sub ha, hu, k F H u Nxt.refl st hr⟩)
    | tup xs =>
      obtain ⟨a, vs, rfl, ha, ra⟩ := rx
      obtain ⟨u, hu, hr⟩ := atI_rep ra e
      exact .inl (.inr ⟨a, vs, i, u, rfl, rfl, sqt_mono st.sub ha, hu, k F H u Nxt.refl st hr⟩)
    | str xs =>
      have rx : _ = _ := rx
      subst rx
      have e : (if xs.length ≤ 100000 then (atI xs i).map fun c => P.str [c] else none) = some z := e
      split at e
      · rename_i hz
        cases q : atI xs i with
        | none => rw [q] at e; cases e
        | some c =>
          rw [q] at e
          have e' : P.str [c] = z := Option.some.inj e
          subst e'
          exact .inr ⟨_, i, c, rfl, rfl, by rw [strOf_length]; exact sz5 hz, by show atI xs i = some c; exact q, k F H _ Nxt.refl st rfl⟩
      · cases e
    | _ => cases e
  | _ => cases x <;> cases e
def OO (X : Cx) (W : WX) (e : Option Expr) (m : En → Sto → Res (Option Int)) : Prop := ∃ t, PO X e t ∧ ∀ (ρ : En) (S : Sto) (io : Io) (F : Hp) (σ : St) (H : Hp) (Q : Option Int → Hp → Prop), Sta X.K io F S H → Mir.Env X.K io F ρ σ →
  RG X.K (fun _ _ a b => a = b) (m ρ S) io F H Q (fun c d H' => W c d σ H') → t σ H Q
def oNo : En → Sto → Res (Option Int) := fun _ S => .ok none S
def intV (d : Vl) (S : Sto) : Res (Option Int) := match d with
  | .p (.int i) => .ok (some i) S
  | _ => .bad
def oYes (m : ME) : En → Sto → Res (Option Int) := fun ρ S => (m ρ S).bind intV
theorem oo_none : OO X W none oNo := ⟨_, po_none, fun ρ S io F σ H Q st en h => RG.val (R := fun _ _ a b => a = b) (d := (none : Option Int)) (v := none) st rfl h⟩
theorem oo_some (he : OE X W e ma) : OO X W (some e) (oYes ma) := by
  obtain ⟨t, p, he⟩ := he
  refine ⟨_, po_some p, fun ρ S io F σ H Q st en h => ?_⟩
  refine he ρ S io F σ H _ st en (RG.bind h fun d S1 io1 F1 H1 v e1 n1 s1 r1 h1 => ?_)
  cases d with
  | c k => exact h1.elim
  | p x =>
    cases x with
    | int i => exact ⟨i, r1, RG.val (R := fun _ _ a b => a = b) (d := some i) (v := some i) s1 rfl h1⟩
    | _ => exact h1.elim
def cutP {A : Type} (xs : List A) (lo hi : Option Int) : List A := (xs.drop (HT.sIx xs.length 0 lo)).take (HT.sIx xs.length xs.length hi - HT.sIx xs.length 0 lo)
def pSl (lo hi : Option Int) : P → Option P
  | .lst xs => some (.lst (cutP xs lo hi))
  | .scr xs => some (.lst (cutP xs lo hi))
  | .tup xs => some (.tup (cutP xs lo hi))
  | .str x => if x.length ≤ 100000 then some (.str (cutP x lo hi)) else none
  | _ => none
def eSl (m : ME) (l h : En → Sto → Res (Option Int)) : ME := fun ρ S => (m ρ S).bind fun d S1 => (l ρ S1).bind fun lo S2 => (h ρ S2).bind fun hi S3 => op1 (pSl lo hi) d S3
theorem cutP_rep {K : PySem.W.Frag} {F : Hp} {xs : List P} {vs : List V} (r : RepL K F xs vs) (lo hi : Option Int) : RepL K F (cutP xs lo hi) (cutV vs lo hi) := by
  unfold cutP cutV
  rw [r.length]
  exact (r.drop _).take _
theorem ok_sl {K : PySem.W.Frag} {lo hi : Option Int} : UnOk K (fun x H Q => (rSlL K x lo hi H Q ∨ rSlA K x lo hi H Q) ∨ rSlS x lo hi H Q) (pSl lo hi) := by
  intro io F S H x v z Q st rx e k
  cases x with
  | lst xs =>
    cases e
    obtain ⟨a, vs, rfl, ha, ra⟩ := rx
    refine .inl (.inl ⟨a, vs, rfl, SqL.of ha, fun p hp => ?_⟩)
    obtain ⟨s3, n3⟩ := st.froze (o := .lst (cutV vs lo hi)) hp
    exact k _ _ _ n3 s3 ⟨p, _, rfl, upd_same, RepL.mono n3.fr (cutP_rep ra lo hi)⟩
  | scr xs =>
    cases e
    obtain ⟨a, vs, rfl, ha, ra⟩ := rx
    refine .inl (.inl ⟨a, vs, rfl, sql_mono st.sub ha, fun p hp => ?_⟩)
    obtain ⟨s3, n3⟩ := st.froze (o := .lst (cutV vs lo hi)) hp
    exact k _ _ _ n3 s3 ⟨p, _, rfl, upd_same, RepL.mono n3.fr (cutP_rep ra lo hi)⟩
  | tup xs =>
    cases e
    obtain ⟨a, vs, rfl, ha, ra⟩ := rx
    refine .inl (.inr ⟨a, vs, rfl, sqt_mono st.sub ha, fun hw => ?_, fun hw p hp => ?_⟩)
    · have hx : cutP xs lo hi = xs := by
        unfold cutP
        rw [← ra.length, hw.1, hw.2, ra.length]
        simp
      rw [hx] at k
      exact k F H _ Nxt.refl st ⟨a, vs, rfl, ha, ra⟩
    · obtain ⟨s3, n3⟩ := st.froze (o := .tup (cutV vs lo hi)) hp
      exact k _ _ _ n3 s3 ⟨p, _, rfl, SqT.of upd_same, RepL.mono n3.fr (cutP_rep ra lo hi)⟩
  | str xs =>
    have rx : _ = _ := rx
    subst rx
    have e : (if xs.length ≤ 100000 then some (P.str (cutP xs lo hi)) else none) = some z := e
    split at e
    · rename_i hz
      cases e
      refine .inr ⟨_, rfl, by rw [strOf_length]; exact sz5 hz, ?_⟩
      have q : cutS (strOf xs) lo hi = strOf (cutP xs lo hi) := by
        unfold cutS cutP
        rw [strOf_length]
        rfl
      rw [q]
      exact k F H _ Nxt.refl st rfl
    · cases e
  | _ => cases e
theorem oe_slice {lo hi : Option Expr} {p2 : Pos} {ml mh : En → Sto → Res (Option Int)} (ha : OE X W a ma) (hl : OO X W lo ml) (hh : OO X W hi mh) : OE X W (.Subscript a (.Slice lo hi none p2) pos) (eSl ma ml mh) := by
  obtain ⟨t, p, ha⟩ := ha
  obtain ⟨tl, pl, hl⟩ := hl
  obtain ⟨th, ph, hh⟩ := hh
  refine ⟨_, pe_slice (SlR.or (SlR.or sl_list sl_tupA) sl_str) p pl ph, fun ρ S io F σ H Q st en h => ?_⟩
  refine ha ρ S io F σ H _ st en (RG.bind h fun d S1 io1 F1 H1 v e1 n1 s1 r1 h1 => ?_)
  refine hl ρ S1 io1 F1 σ H1 _ s1 (en.nxt n1) (RG.bind h1 fun lo' S2 io2 F2 H2 v2 e2 n2 s2 r2 h2 => ?_)
  subst r2
  refine hh ρ S2 io2 F2 σ H2 _ s2 (en.nxt (n1.trans n2)) (RG.bind h2 fun hi' S3 io3 F3 H3 v3 e3 n3 s3 r3 h3 => ?_)
  subst r3
  exact s3.op1 (r := fun x H Q => (rSlL X.K x lo' hi' H Q ∨ rSlA X.K x lo' hi' H Q) ∨ rSlS x lo' hi' H Q) ok_sl (r1.mono (n2.trans n3).han (n2.trans n3).fr) h3
end
end Mir

namespace Mir
open PySem L2
theorem CallR.or {X : Cx} {f : Value} {r r' : List V → Hp → VK → Prop} (h : CallR X f r) (h' : CallR X f r') : CallR X f (fun xs H Q => r xs H Q ∨ r' xs H Q) := by
  intro pins s σ H xs us Q I rv q
  rcases q with q | q
  · exact h pins s σ H xs us Q I rv q
  · exact h' pins s σ H xs us Q I rv q
def intsOf : List P → Option (List Int)
  | [] => some []
  | .int i :: r => (intsOf r).map (i :: ·)
  | _ :: _ => none
def blsOf : List P → Option (List Bool)
  | [] => some []
  | .bl i :: r => (blsOf r).map (i :: ·)
  | _ :: _ => none
def strsOf : List P → Option (List (List Nat))
  | [] => some []
  | .str i :: r => (strsOf r).map (i :: ·)
  | _ :: _ => none
section
variable {K : PySem.W.Frag} {F H : Hp}
theorem intsOf_rep : ∀ {xs : List P} {vs : List V} {ns : List Int}, RepL K F xs vs → intsOf xs = some ns → vs = ns.map V.int ∧ xs = ns.map P.int
  | [], vs, ns, r, e => by
    have e' : [] = ns := Option.some.inj e
    subst e'
    exact ⟨r, rfl⟩
  | x :: xs, vs, ns, ⟨v, w, e1, h1, h2⟩, e => by
    subst e1
    cases x with
    | int i =>
      have e : (intsOf xs).map (i :: ·) = some ns := e
      cases q : intsOf xs with
      | none => rw [q] at e; cases e
      | some ms =>
        rw [q] at e
        have e' : i :: ms = ns := Option.some.inj e
        subst e'
        obtain ⟨a, b⟩ := intsOf_rep h2 q
        have h1 : v = .int i := h1
        rw [a, b, h1]
        exact ⟨rfl, rfl⟩
    | _ => cases e
theorem blsOf_rep : ∀ {xs : List P} {vs : List V} {ns : List Bool}, RepL K F xs vs → blsOf xs = some ns → vs = ns.map V.bl ∧ xs = ns.map P.bl
  | [], vs, ns, r, e => by
    have e' : [] = ns := Option.some.inj e
    subst e'
    exact ⟨r, rfl⟩
  | x :: xs, vs, ns, ⟨v, w, e1, h1, h2⟩, e => by
    subst e1
    cases x with
    | bl i =>
      have e : (blsOf xs).map (i :: ·) = some ns := e
      cases q : blsOf xs with
      | none => rw [q] at e; cases e
      | some ms =>
        rw [q] at e
        have e' : i :: ms = ns := Option.some.inj e
        subst e'
        obtain ⟨a, b⟩ := blsOf_rep h2 q
        have h1 : v = .bl i := h1
        rw [a, b, h1]
        exact ⟨rfl, rfl⟩
    | _ => cases e
theorem strsOf_rep : ∀ {xs : List P} {vs : List V} {ns : List (List Nat)}, RepL K F xs vs → strsOf xs = some ns → vs = (ns.map strOf).map V.str ∧ xs = ns.map P.str
  | [], vs, ns, r, e => by
    have e' : [] = ns := Option.some.inj e
    subst e'
    exact ⟨r, rfl⟩
  | x :: xs, vs, ns, ⟨v, w, e1, h1, h2⟩, e => by
    subst e1
    cases x with
    | str i =>
      have e : (strsOf xs).map (i :: ·) = some ns := e
      cases q : strsOf xs with
      | none => rw [q] at e; cases e
      | some ms =>
        rw [q] at e
        have e' : i :: ms = ns := Option.some.inj e
        subst e'
        obtain ⟨a, b⟩ := strsOf_rep h2 q
        have h1 : v = .str (strOf i) := h1
        rw [a, b, h1]
        exact ⟨rfl, rfl⟩
    | _ => cases e
theorem repL_ints : ∀ (ns : List Int), RepL K F (ns.map P.int) (ns.map V.int)
  | [] => .nil
  | n :: ns => .cons rfl (repL_ints ns)
theorem repL_strs : ∀ (ns : List (List Nat)), RepL K F (ns.map P.str) ((ns.map strOf).map V.str)
  | [] => .nil
  | n :: ns => .cons rfl (repL_strs ns)
end
@[simp] theorem intsOf_map (ns : List Int) : intsOf (ns.map P.int) = some ns := by
  induction ns with
  | nil => rfl
  | cons n ns ih => show (intsOf (ns.map P.int)).map (n :: ·) = _; rw [ih]; rfl
@[simp] theorem blsOf_map (ns : List Bool) : blsOf (ns.map P.bl) = some ns := by
  induction ns with
  | nil => rfl
  | cons n ns ih => show (blsOf (ns.map P.bl)).map (n :: ·) = _; rw [ih]; rfl
@[simp] theorem strsOf_map (ns : List (List Nat)) : strsOf (ns.map P.str) = some ns := by
  induction ns with
  | nil => rfl
  | cons n ns ih => show (strsOf (ns.map P.str)).map (n :: ·) = _; rw [ih]; rfl
def ins (n : Int) : List Int → List Int
  | [] => [n]
  | m :: r => if n ≤ m then n :: m :: r else m :: ins n r
def isort : List Int → List Int
  | [] => []
  | n :: r => ins n (isort r)
theorem ins_perm (n : Int) : ∀ l : List Int, (ins n l).Perm (n :: l)
  | [] => List.Perm.refl _
  | m :: r => by
    unfold ins
    split
    · exact List.Perm.refl _
    · exact ((ins_perm n r).cons m).trans (List.Perm.swap n m r)
theorem isort_perm : ∀ l : List Int, (isort l).Perm l
  | [] => List.Perm.refl _
  | n :: r => (ins_perm n (isort r)).trans ((isort_perm r).cons n)
theorem ins_sorted (n : Int) : ∀ {l : List Int}, l.Pairwise (· ≤ ·) → (ins n l).Pairwise (· ≤ ·)
  | [], _ => by unfold ins; exact List.pairwise_singleton _ _
  | m :: r, h => by
    unfold ins
    rw [List.pairwise_cons] at h
    split
    · rename_i hn
      refine List.pairwise_cons.mpr ⟨fun a ha => ?_, List.pairwise_cons.mpr h⟩
      rcases List.mem_cons.mp ha with rfl | ha
      · exact hn
      · exact Int.le_trans hn (h.1 a ha)
    · rename_i hn
      refine List.pairwise_cons.mpr ⟨fun a ha => ?_, ins_sorted n h.2⟩
      rcases List.mem_cons.mp ((ins_perm n r).mem_iff.mp ha) with rfl | ha
      · omega
      · exact h.1 a ha
theorem isort_sorted : ∀ l : List Int, (isort l).Pairwise (· ≤ ·)
  | [] => .nil
  | n :: r => ins_sorted n (isort_sorted r)
theorem isort_unique {l l' : List Int} (p : l'.Perm l) (h : l'.Pairwise (· ≤ ·)) : l' = isort l :=
  List.Perm.eq_of_pairwise (fun a b _ _ h1 h2 => Int.le_antisymm h1 h2) h (isort_sorted l) (p.trans (isort_perm l).symm)
def pLen : List P → Option P
  | [.lst xs] => some (.int xs.length)
  | [.scr xs] => some (.int xs.length)
  | [.tup xs] => some (.int xs.length)
  | [.str x] => if x.length ≤ 100000 then some (.int x.length) else none
  | [.dct ks xs] => some (.int ks.length)
  | _ => none
def pSum : List P → Option P
  | [.lst xs] => (intsOf xs).map fun ns => .int ns.sum
  | _ => none
def pAll : List P → Option P
  | [.lst xs] => (blsOf xs).map fun ns => .bl (ns.all id)
  | _ => none
def pAny : List P → Option P
  | [.lst xs] => (blsOf xs).map fun ns => .bl (ns.any id)
  | _ => none
def pSorted : List P → Option P
  | [.lst xs] => (intsOf xs).map fun ns => .lst ((isort ns).map P.int)
  | _ => none
def pTuple : List P → Option P
  | [.lst xs] => some (.tup xs)
  | [.tup xs] => some (.tup xs)
  | _ => none
def pList : List P → Option P
  | [.lst xs] => some (.lst xs)
  | [.tup xs] => some (.lst xs)
  | _ => none
def pAbs : List P → Option P
  | [.int i] => some (.int (if i < 0 then -i else i))
  | _ => none
def pInt : List P → Option P
  | [.int i] => some (.int i)
  | [.bl b] => some (.int (if b then 1 else 0))
  | _ => none
def pMax2 : List P → Option P
  | [.int i, .int j] => some (.int (if j > i then j else i))
  | _ => none
def pMin2 : List P → Option P
  | [.int i, .int j] => some (.int (if j < i then j else i))
  | _ => none
def pDivmod : List P → Option P
  | [.int i, .int j] => if bDiv i j then some (.tup [.int (i / j), .int (i % j)]) else none
  | _ => none
section
variable {K : PySem.W.Frag}
theorem ok_len : CallOk K (fun xs H Q => (∃ x n, xs = [x] ∧ LenV K x H n ∧ Q (.int n) H) ∨ (∃ a kvs, xs = [V.ref a] ∧ H a = some (.dK kvs) ∧ Q (.int kvs.length) H)) pLen := by
  intro io F S H xs vs z Q st rx e k
  match xs, e with
  | [.lst xs], e =>
    obtain ⟨v, rfl, r1⟩ := rx.one
    obtain ⟨a, vs, rfl, ha, ra⟩ := r1
    cases e
    refine .inl ⟨_, vs.length, rfl, .inl ⟨vs, SqL.of ha, rfl⟩, ?_⟩
    rw [ra.length]
    exact k F H _ Nxt.refl st rfl
  | [.scr xs], e =>
    obtain ⟨v, rfl, r1⟩ := rx.one
    obtain ⟨a, vs, rfl, ha, ra⟩ := r1
    cases e
    refine .inl ⟨_, vs.length, rfl, .inl ⟨vs, sql_mono st.sub ha, rfl⟩, ?_⟩
    rw [ra.length]
    exact k F H _ Nxt.refl st rfl
  | [.tup xs], e =>
    obtain ⟨v, rfl, r1⟩ := rx.one
    obtain ⟨a, vs, rfl, ha, ra⟩ := r1
    cases e
    refine .inl ⟨_, vs.length, rfl, .inr ⟨vs, sqt_mono st.sub ha, rfl⟩, ?_⟩
    rw [ra.length]
    exact k F H _ Nxt.refl st rfl
  | [.str xs], e =>
    obtain ⟨v, rfl, r1⟩ := rx.one
    have r1 : v = .str (strOf xs) := r1
    subst r1
    have e : (if xs.length ≤ 100000 then some (P.int xs.length) else none) = some z := e
    split at e
    · rename_i hz
      cases e
      refine .inl ⟨_, xs.length, rfl, ⟨by rw [strOf_length]; exact sz5 hz, (strOf_length xs).symm⟩, ?_⟩
      exact k F H _ Nxt.refl st rfl
    · cases e
  | [.dct ks xs], e =>
    obtain ⟨v, rfl, r1⟩ := rx.one
    obtain ⟨a, kvs, rfl, ha, ra, rb⟩ := r1
    cases e
    refine .inr ⟨a, kvs, rfl, ha, ?_⟩
    have := ra.length
    rw [List.length_map] at this
    rw [this]
    exact k F H _ Nxt.refl st rfl
theorem ok_sum : CallOk K (rSum K) pSum := by
  intro io F S H xs vs z Q st rx e k
  match xs, e with
  | [.lst xs], e =>
    obtain ⟨v, rfl, r1⟩ := rx.one
    obtain ⟨a, vs, rfl, ha, ra⟩ := r1
    have e : (intsOf xs).map (fun ns => P.int ns.sum) = some z := e
    cases q : intsOf xs with
    | none => rw [q] at e; cases e
    | some ns =>
      rw [q] at e
      cases e
      obtain ⟨h1, h2⟩ := intsOf_rep ra q
      subst h1
      exact ⟨a, ns, rfl, SqL.of ha, k F H _ Nxt.refl st rfl⟩
theorem ok_all : CallOk K (rAll K) pAll := by
  intro io F S H xs vs z Q st rx e k
  match xs, e with
  | [.lst xs], e =>
    obtain ⟨v, rfl, r1⟩ := rx.one
    obtain ⟨a, vs, rfl, ha, ra⟩ := r1
    have e : (blsOf xs).map (fun ns => P.bl (ns.all id)) = some z := e
    cases q : blsOf xs with
    | none => rw [q] at e; cases e
    | some ns =>
      rw [q] at e
      cases e
      obtain ⟨h1, h2⟩ := blsOf_rep ra q
      subst h1
      exact ⟨a, ns, rfl, SqL.of ha, k F H _ Nxt.refl st rfl⟩
theorem ok_any : CallOk K (rAny K) pAny := by
  intro io F S H xs vs z Q st rx e k
  match xs, e with
  | [.lst xs], e =>
    obtain ⟨v, rfl, r1⟩ := rx.one
    obtain ⟨a, vs, rfl, ha, ra⟩ := r1
    have e : (blsOf xs).map (fun ns => P.bl (ns.any id)) = some z := e
    cases q : blsOf xs with
    | none => rw [q] at e; cases e
    | some ns =>
      rw [q] at e
      cases e
      obtain ⟨h1, h2⟩ := blsOf_rep ra q
      subst h1
      exact ⟨a, ns, rfl, SqL.of ha, k F H _ Nxt.refl st rfl⟩
theorem ok_sorted : CallOk K (rSortedI K) pSorted := by
  intro io F S H xs vs z Q st rx e k
  match xs, e with
  | [.lst xs], e =>
    obtain ⟨v, rfl, r1⟩ := rx.one
    obtain ⟨a, vs, rfl, ha, ra⟩ := r1
    have e : (intsOf xs).map (fun ns => P.lst ((isort ns).map P.int)) = some z := e
    cases q : intsOf xs with
    | none => rw [q] at e; cases e
    | some ns =>
      rw [q] at e
      cases e
      obtain ⟨h1, h2⟩ := intsOf_rep ra q
      subst h1
      refine ⟨a, ns, rfl, SqL.of ha, fun ns' p hp hs hn => ?_⟩
      have := isort_unique hp hs
      subst this
      obtain ⟨s3, n3⟩ := st.froze (o := .lst ((isort ns).map V.int)) hn
      exact k _ _ _ n3 s3 ⟨p, _, rfl, upd_same, repL_ints _⟩
theorem ok_tuple : CallOk K (fun xs H Q => ∃ p ys, xs = [.ref p] ∧ ((SqL K H p ys ∧ ∀ l, H l = none → Q (.ref l) (upd H l (.tup ys))) ∨ (SqT K H p ys ∧ Q (.ref p) H))) pTuple := by
  intro io F S H xs vs z Q st rx e k
  match xs, e with
  | [.lst xs], e =>
    obtain ⟨v, rfl, r1⟩ := rx.one
    obtain ⟨a, vs, rfl, ha, ra⟩ := r1
    cases e
    refine ⟨a, vs, rfl, .inl ⟨SqL.of ha, fun p hp => ?_⟩⟩
    obtain ⟨s3, n3⟩ := st.froze (o := .tup vs) hp
    exact k _ _ _ n3 s3 ⟨p, _, rfl, SqT.of upd_same, RepL.mono n3.fr ra⟩
  | [.tup xs], e =>
    obtain ⟨v, rfl, r1⟩ := rx.one
    obtain ⟨a, vs, rfl, ha, ra⟩ := r1
    cases e
    exact ⟨a, vs, rfl, .inr ⟨sqt_mono st.sub ha, k F H _ Nxt.refl st ⟨a, vs, rfl, ha, ra⟩⟩⟩
theorem ok_list : CallOk K (fun xs H Q => ∃ p ys, xs = [.ref p] ∧ (SqL K H p ys ∨ SqT K H p ys) ∧ ∀ l, H l = none → Q (.ref l) (upd H l (.lst ys))) pList := by
  intro io F S H xs vs z Q st rx e k
  match xs, e with
  | [.lst xs], e =>
    obtain ⟨v, rfl, r1⟩ := rx.one
    obtain ⟨a, vs, rfl, ha, ra⟩ := r1
    cases e
    refine ⟨a, vs, rfl, .inl (SqL.of ha), fun p hp => ?_⟩
    obtain ⟨s3, n3⟩ := st.froze (o := .lst vs) hp
    exact k _ _ _ n3 s3 ⟨p, _, rfl, upd_same, RepL.mono n3.fr ra⟩
  | [.tup xs], e =>
    obtain ⟨v, rfl, r1⟩ := rx.one
    obtain ⟨a, vs, rfl, ha, ra⟩ := r1
    cases e
    refine ⟨a, vs, rfl, .inr (sqt_mono st.sub ha), fun p hp => ?_⟩
    obtain ⟨s3, n3⟩ := st.froze (o := .lst vs) hp
    exact k _ _ _ n3 s3 ⟨p, _, rfl, upd_same, RepL.mono n3.fr ra⟩
theorem ok_abs : CallOk K (fun xs H Q => ∃ i, xs = [.int i] ∧ Q (.int (if i < 0 then -i else i)) H) pAbs := by
  intro io F S H xs vs z Q st rx e k
  match xs, e with
  | [.int i], e =>
    obtain ⟨v, rfl, r1⟩ := rx.one
    have r1 : v = .int i := r1
    subst r1
    cases e
    exact ⟨i, rfl, k F H _ Nxt.refl st rfl⟩
theorem ok_int : CallOk K (fun xs H Q => (∃ i, xs = [.int i] ∧ Q (.int i) H) ∨ ∃ k, xs = [.bl k] ∧ Q (.int (if k then 1 else 0)) H) pInt := by
  intro io F S H xs vs z Q st rx e k
  match xs, e with
  | [.int i], e =>
    obtain ⟨v, rfl, r1⟩ := rx.one
    have r1 : v = .int i := r1
    subst r1
    cases e
    exact .inl ⟨i, rfl, k F H _ Nxt.refl st rfl⟩
  | [.bl i], e =>
    obtain ⟨v, rfl, r1⟩ := rx.one
    have r1 : v = .bl i := r1
    subst r1
    cases e
    exact .inr ⟨i, rfl, k F H _ Nxt.refl st rfl⟩
theorem ok_max2 : CallOk K (fun xs H Q => ∃ i j, xs = [.int i, .int j] ∧ Q (.int (if j > i then j else i)) H) pMax2 := by
  intro io F S H xs vs z Q st rx e k
  match xs, e with
  | [.int i, .int j], e =>
    obtain ⟨v, w, rfl, r1, r2⟩ := rx.two
    have r1 : v = .int i := r1
    have r2 : w = .int j := r2
    subst r1; subst r2
    cases e
    exact ⟨i, j, rfl, k F H _ Nxt.refl st rfl⟩
theorem ok_min2 : CallOk K (fun xs H Q => ∃ i j, xs = [.int i, .int j] ∧ Q (.int (if j < i then j else i)) H) pMin2 := by
  intro io F S H xs vs z Q st rx e k
  match xs, e with
  | [.int i, .int j], e =>
    obtain ⟨v, w, rfl, r1, r2⟩ := rx.two
    have r1 : v = .int i := r1
    have r2 : w = .int j := r2
    subst r1; subst r2
    cases e
    exact ⟨i, j, rfl, k F H _ Nxt.refl st rfl⟩
theorem ok_divmod : CallOk K (fun xs H Q => ∃ i j, xs = [.int i, .int j] ∧ CDiv i j ∧ ∀ p, H p = none → Q (.ref p) (upd H p (.tup [.int (i / j), .int (i % j)]))) pDivmod := by
  intro io F S H xs vs z Q st rx e k
  match xs, e with
  | [.int i, .int j], e =>
    obtain ⟨v, w, rfl, r1, r2⟩ := rx.two
    have r1 : v = .int i := r1
    have r2 : w = .int j := r2
    subst r1; subst r2
    have e : (if bDiv i j then some (P.tup [.int (i / j), .int (i % j)]) else none) = some z := e
    split at e
    · rename_i hd
      cases e
      refine ⟨i, j, rfl, bDiv_ok i j hd, fun p hp => ?_⟩
      obtain ⟨s3, n3⟩ := st.froze (o := .tup [.int (i / j), .int (i % j)]) hp
      exact k _ _ _ n3 s3 ⟨p, _, rfl, SqT.of upd_same, .cons rfl (.cons rfl .nil)⟩
    · cases e
end
def txL (x : Str) : List Nat := x.cps.toList
theorem strOf_txL (x : Str) : strOf (txL x) = x := strOf_toList x
def pJoin : P → List P → Option P
  | .str s, [.lst xs] => (strsOf xs).bind fun ys => if (ys.map (·.length)).sum + ys.length * s.length ≤ 1000000 then some (.str (TL.joinL s ys)) else none
  | .str s, [.tup xs] => (strsOf xs).bind fun ys => if (ys.map (·.length)).sum + ys.length * s.length ≤ 1000000 then some (.str (TL.joinL s ys)) else none
  | _, _ => none
def pSplit : P → List P → Option P
  | .str x, [.str s] => if s ≠ [] ∧ (s.all fun c => decide (c < 256)) = true ∧ x.length ≤ 1000000 then some (.lst ((TL.spl s 0 [] x).map P.str)) else none
  | _, _ => none
def partL (s x : List Nat) : List Nat × List Nat × List Nat := match TL.par s [] x with
  | some (a, b) => (a, s, b)
  | none => (x, [], [])
def pPartition : P → List P → Option P
  | .str x, [.str s] => if s ≠ [] ∧ x.length ≤ 100000 then some (.tup [.str (partL s x).1, .str (partL s x).2.1, .str (partL s x).2.2]) else none
  | _, _ => none
def flatP : P → Bool
  | .non => true
  | .bl _ => true
  | .int _ => true
  | .str _ => true
  | _ => false
def idxP (y : P) : List P → Nat → Option Nat
  | [], _ => none
  | x :: xs, i => if x.eqv y then some i else idxP y xs (i + 1)
def pIndex : P → List P → Option P
  | .lst xs, [y] => if flatP y && xs.all flatP then (idxP y xs 0).map fun (i : Nat) => .int i else none
  | _, _ => none
section
variable {K : PySem.W.Frag} {F H : Hp}
theorem flat_rep {x : P} {v : V} (h : flatP x = true) (r : Rep K F x v) : flatV v = true := by
  cases x with
  | non => have r : _ = _ := r; subst r; rfl
  | bl _ => have r : _ = _ := r; subst r; rfl
  | int _ => have r : _ = _ := r; subst r; rfl
  | str _ => have r : _ = _ := r; subst r; rfl
  | _ => cases h
theorem flat_eqv {x y : P} {v w : V} (hx : flatP x = true) (hy : flatP y = true) (r : Rep K F x v) (q : Rep K F y w) : eqV v w = x.eqv y := by
  cases x with
  | non =>
    have r : _ = _ := r
    subst r
    cases y <;> first | (have q : _ = _ := q; subst q; rfl) | cases hy
  | bl _ =>
    have r : _ = _ := r
    subst r
    cases y <;> first | (have q : _ = _ := q; subst q; rfl) | cases hy
  | int _ =>
    have r : _ = _ := r
    subst r
    cases y <;> first | (have q : _ = _ := q; subst q; rfl) | cases hy
  | str x =>
    have r : _ = _ := r
    subst r
    cases y with
    | str y =>
      have q : _ = _ := q
      subst q
      show (strOf x == strOf y) = (x == y)
      exact strOf_beq x y
    | non => have q : _ = _ := q; subst q; rfl
    | bl _ => have q : _ = _ := q; subst q; rfl
    | int _ => have q : _ = _ := q; subst q; rfl
    | _ => cases hy
  | _ => cases hx
theorem flats_rep : ∀ {xs : List P} {vs : List V}, xs.all flatP = true → RepL K F xs vs → vs.all flatV = true
  | [], vs, _, r => by
    have r : _ = _ := r
    subst r
    rfl
  | x :: xs, vs, h, ⟨v, w, e1, h1, h2⟩ => by
    subst e1
    rw [List.all_cons, Bool.and_eq_true] at h
    rw [List.all_cons, flat_rep h.1 h1, flats_rep h.2 h2]
    rfl
theorem idxP_some : ∀ {y : P} {xs : List P} {i n : Nat}, idxP y xs i = some n → ∃ j x, n = i + j ∧ xs[j]? = some x ∧ x.eqv y = true ∧ ∀ (m : Nat) (z : P), m < j → xs[m]? = some z → z.eqv y = false
  | y, [], i, n, e => by cases e
  | y, x :: xs, i, n, e => by
    unfold idxP at e
    split at e
    · rename_i h
      cases e
      exact ⟨0, x, rfl, rfl, h, fun m z hm => by omega⟩
    · rename_i h
      obtain ⟨j, z, h1, h2, h3, h4⟩ := idxP_some e
      refine ⟨j + 1, z, by omega, by simpa using h2, h3, fun m w hm hw => ?_⟩
      cases m with
      | zero =>
        have : x = w := by simpa using hw
        subst this
        exact Bool.eq_false_iff.mpr h
      | succ m => exact h4 m w (by omega) (by simpa using hw)
theorem ok_index : CallOk K (rM (rIndex K)) fun xs => match xs with
    | x :: r => pIndex x r
    | [] => none := by
  intro io F S H xs vs z Q st rx e k
  match xs, e with
  | [.lst xs, y], e =>
    obtain ⟨v, w, rfl, r1, r2⟩ := rx.two
    obtain ⟨a, vs, rfl, ha, ra⟩ := r1
    have e : (if flatP y && xs.all flatP then (idxP y xs 0).map fun (i : Nat) => P.int i else none) = some z := e
    split at e
    · rename_i hf
      rw [Bool.and_eq_true] at hf
      cases q : idxP y xs 0 with
      | none => rw [q] at e; cases e
      | some n =>
        rw [q] at e
        cases e
        obtain ⟨j, x, h1, h2, h3, h4⟩ := idxP_some q
        have h1 : n = j := by omega
        subst h1
        have ry : Rep K F y w := by
          cases y <;> first | exact r2 | cases hf.1
        obtain ⟨u, hu, hr⟩ := ra.get h2
        have fx : flatP x = true := List.all_eq_true.mp hf.2 x (List.mem_of_getElem? h2)
        refine ⟨a, vs, w, n, u, rfl, rfl, SqL.of ha, flat_rep hf.1 ry, flats_rep hf.2 ra, hu, by rw [flat_eqv fx hf.1 hr ry]; exact h3, fun m z' hm hz' => ?_, k F H _ Nxt.refl st rfl⟩
        obtain ⟨x', hx', hr'⟩ := ra.getV hz'
        rw [flat_eqv (List.all_eq_true.mp hf.2 x' (List.mem_of_getElem? hx')) hf.1 hr' ry]
        exact h4 m x' hm hx'
    · cases e
theorem joinL_ok (s : List Nat) (ys : List (List Nat)) : Txt.join (strOf s) (ys.map strOf) = strOf (TL.joinL s ys) := by
  have h := TL.tl_join (strOf s) (ys.map strOf)
  have h2 : (ys.map strOf).map TL.tl = ys := by
    rw [List.map_map]
    have : (TL.tl ∘ strOf) = id := by
      funext x
      rfl
    rw [this, List.map_id]
  rw [h2] at h
  have h3 : Txt.join (strOf s) (ys.map strOf) = Str.join (strOf s) (ys.map strOf) := TL.join_eq _ _
  rw [h3]
  have h4 : TL.tl (Str.join (strOf s) (ys.map strOf)) = TL.joinL s ys := h
  rw [← h4]
  exact (strOf_toList _).symm
theorem len_strOf (ys : List (List Nat)) : ((ys.map strOf).map (·.length)) = ys.map (·.length) := by
  rw [List.map_map]
  apply List.map_congr_left
  intro a _
  exact strOf_length a
theorem ok_join : CallOk K (rM (fun x xs H Q => ∃ a p, ∃ ys : List Str, x = .str a ∧ xs = [.ref p] ∧ (SqL K H p (ys.map V.str) ∨ SqT K H p (ys.map V.str)) ∧
    (ys.map (·.length)).sum + ys.length * a.length ≤ 16777216 ∧ Q (.str (Txt.join a ys)) H)) fun xs => match xs with
    | x :: r => pJoin x r
    | [] => none := by
  intro io F S H xs vs z Q st rx e k
  match xs, e with
  | [.str s, .lst xs], e =>
    obtain ⟨v, w, rfl, r1, r2⟩ := rx.two
    have r1 : v = .str (strOf s) := r1
    subst r1
    obtain ⟨a, vs, rfl, ha, ra⟩ := r2
    have e : ((strsOf xs).bind fun ys => if (ys.map (·.length)).sum + ys.length * s.length ≤ 1000000 then some (P.str (TL.joinL s ys)) else none) = some z := e
    cases q : strsOf xs with
    | none => rw [q] at e; cases e
    | some ys =>
      rw [q] at e
      have e : (if (ys.map (·.length)).sum + ys.length * s.length ≤ 1000000 then some (P.str (TL.joinL s ys)) else none) = some z := e
      split at e
      · rename_i hz
        cases e
        obtain ⟨h1, h2⟩ := strsOf_rep ra q
        subst h1
        refine ⟨strOf s, a, ys.map strOf, rfl, rfl, .inl (SqL.of ha), ?_, ?_⟩
        · rw [len_strOf, List.length_map, strOf_length]
          exact Nat.le_trans hz (by decide)
        · rw [joinL_ok]
          exact k F H _ Nxt.refl st rfl
      · cases e
  | [.str s, .tup xs], e =>
    obtain ⟨v, w, rfl, r1, r2⟩ := rx.two
    have r1 : v = .str (strOf s) := r1
    subst r1
    obtain ⟨a, vs, rfl, ha, ra⟩ := r2
    have e : ((strsOf xs).bind fun ys => if (ys.map (·.length)).sum + ys.length * s.length ≤ 1000000 then some (P.str (TL.joinL s ys)) else none) = some z := e
    cases q : strsOf xs with
    | none => rw [q] at e; cases e
    | some ys =>
      rw [q] at e
      have e : (if (ys.map (·.length)).sum + ys.length * s.length ≤ 1000000 then some (P.str (TL.joinL s ys)) else none) = some z := e
      split at e
      · rename_i hz
        cases e
        obtain ⟨h1, h2⟩ := strsOf_rep ra q
        subst h1
        refine ⟨strOf s, a, ys.map strOf, rfl, rfl, .inr (sqt_mono st.sub ha), ?_, ?_⟩
        · rw [len_strOf, List.length_map, strOf_length]
          exact Nat.le_trans hz (by decide)
        · rw [joinL_ok]
          exact k F H _ Nxt.refl st rfl
      · cases e
theorem map_strOf_txL (ys : List Str) : ((ys.map txL).map strOf) = ys := by
  rw [List.map_map]
  have : (strOf ∘ txL) = id := by
    funext x
    exact strOf_txL x
  rw [this, List.map_id]
theorem split_ok {x s : List Nat} (h1 : s ≠ []) (h2 : (s.all fun c => decide (c < 256)) = true) : Txt.split (strOf x) (strOf s) = (TL.spl s 0 [] x).map strOf := by
  have h := TL.split_spl (strOf x) (strOf s) h1 (TL.kind_ok (by
    show s.toArray.all _ = true
    rw [List.all_toArray]
    exact h2))
  have h3 : ((Txt.split (strOf x) (strOf s)).map txL).map strOf = (TL.spl s 0 [] x).map strOf := congrArg (List.map strOf) h
  rw [map_strOf_txL] at h3
  exact h3
theorem ok_split : CallOk K (rM (fun x xs H Q => ∃ a b, x = .str a ∧ xs = [.str b] ∧ (b.length == 0) = false ∧ a.length + 2 ≤ sizeLine ∧ rNewStrs (Txt.split a b) H Q)) fun xs => match xs with
    | x :: r => pSplit x r
    | [] => none := by
  intro io F S H xs vs z Q st rx e k
  match xs, e with
  | [.str x, .str s], e =>
    obtain ⟨v, w, rfl, r1, r2⟩ := rx.two
    have r1 : v = .str (strOf x) := r1
    have r2 : w = .str (strOf s) := r2
    subst r1; subst r2
    have e : (if s ≠ [] ∧ (s.all fun c => decide (c < 256)) = true ∧ x.length ≤ 1000000 then some (P.lst ((TL.spl s 0 [] x).map P.str)) else none) = some z := e
    split at e
    · rename_i hz
      cases e
      refine ⟨strOf x, strOf s, rfl, rfl, by rw [strOf_length]; simpa using hz.1, by rw [strOf_length]; exact Nat.le_trans (Nat.add_le_add_right hz.2.2 2) (by decide), fun p hp => ?_⟩
      rw [split_ok hz.1 hz.2.1]
      obtain ⟨s3, n3⟩ := st.froze (o := .lst (((TL.spl s 0 [] x).map strOf).map V.str)) hp
      exact k _ _ _ n3 s3 ⟨p, _, rfl, upd_same, repL_strs _⟩
    · cases e
theorem part_ok {x s : List Nat} (h1 : s ≠ []) : Txt.partition (strOf x) (strOf s) = (strOf (partL s x).1, strOf (partL s x).2.1, strOf (partL s x).2.2) := by
  have h := TL.partition_par (strOf x) (strOf s) h1
  rw [h]
  unfold partL
  show (match TL.par s [] x with | some (a, b) => _ | none => _) = _
  cases TL.par s [] x with
  | none => rfl
  | some q => rfl
theorem ok_partition : CallOk K (rM (fun x xs H Q => ∃ a b, x = .str a ∧ xs = [.str b] ∧ (b.length == 0) = false ∧ a.length ≤ sizeLine ∧
    ∀ p, H p = none → Q (.ref p) (upd H p (.tup [.str (Txt.partition a b).1, .str (Txt.partition a b).2.1, .str (Txt.partition a b).2.2])))) fun xs => match xs with
    | x :: r => pPartition x r
    | [] => none := by
  intro io F S H xs vs z Q st rx e k
  match xs, e with
  | [.str x, .str s], e =>
    obtain ⟨v, w, rfl, r1, r2⟩ := rx.two
    have r1 : v = .str (strOf x) := r1
    have r2 : w = .str (strOf s) := r2
    subst r1; subst r2
    have e : (if s ≠ [] ∧ x.length ≤ 100000 then some (P.tup [.str (partL s x).1, .str (partL s x).2.1, .str (partL s x).2.2]) else none) = some z := e
    split at e
    · rename_i hz
      cases e
      refine ⟨strOf x, strOf s, rfl, rfl, by rw [strOf_length]; simpa using hz.1, by rw [strOf_length]; exact sz5 hz.2, fun p hp => ?_⟩
      rw [part_ok hz.1]
      obtain ⟨s3, n3⟩ := st.froze (o := .tup [.str (strOf (partL s x).1), .str (strOf (partL s x).2.1), .str (strOf (partL s x).2.2)]) hp
      exact k _ _ _ n3 s3 ⟨p, _, rfl, SqT.of upd_same, .cons rfl (.cons rfl (.cons rfl .nil))⟩
    · cases e
end
section
variable {X : Cx} {W : WX} {a b c e o : Expr} {ma mb mc mo : ME} {pos p apos : Pos}
theorem oe_len (hm : X.mg "len" = none) (ha : OE X W a ma) (hg : Gl X "len" := by rfl) (hs : starEach [a] X.env = (false, eval a X.env) :: starEach [] X.env := by rfl) : OE X W (.Call (.Name "len" p) [a] [] pos) (eCall pLen (aCons ma aNil)) := oe_callB (CallR.or call_len call_lenD) ok_len hm PySem.boot_len (oa_cons ha oa_nil hs) hg (by decide) (by decide) hs rfl
theorem oe_sum (hc : X.calm = true) (hm : X.mg "sum" = none) (ha : OE X W a ma) (hg : Gl X "sum" := by rfl) (hs : starEach [a] X.env = (false, eval a X.env) :: starEach [] X.env := by rfl) : OE X W (.Call (.Name "sum" p) [a] [] pos) (eCall pSum (aCons ma aNil)) := oe_callB (cr_sum hc) ok_sum hm (by decide +kernel) (oa_cons ha oa_nil hs) hg (by decide) (by decide) hs rfl
theorem oe_all (hc : X.calm = true) (hm : X.mg "all" = none) (ha : OE X W a ma) (hg : Gl X "all" := by rfl) (hs : starEach [a] X.env = (false, eval a X.env) :: starEach [] X.env := by rfl) : OE X W (.Call (.Name "all" p) [a] [] pos) (eCall pAll (aCons ma aNil)) := oe_callB (cr_all hc) ok_all hm (by decide +kernel) (oa_cons ha oa_nil hs) hg (by decide) (by decide) hs rfl
theorem oe_any (hc : X.calm = true) (hm : X.mg "any" = none) (ha : OE X W a ma) (hg : Gl X "any" := by rfl) (hs : starEach [a] X.env = (false, eval a X.env) :: starEach [] X.env := by rfl) : OE X W (.Call (.Name "any" p) [a] [] pos) (eCall pAny (aCons ma aNil)) := oe_callB (cr_any hc) ok_any hm (by decide +kernel) (oa_cons ha oa_nil hs) hg (by decide) (by decide) hs rfl
theorem oe_sorted (hm : X.mg "sorted" = none) (ha : OE X W a ma) (hg : Gl X "sorted" := by rfl) (hs : starEach [a] X.env = (false, eval a X.env) :: starEach [] X.env := by rfl) : OE X W (.Call (.Name "sorted" p) [a] [] pos) (eCall pSorted (aCons ma aNil)) := oe_callB cr_sortedI ok_sorted hm (by decide +kernel) (oa_cons ha oa_nil hs) hg (by decide) (by decide) hs rfl
theorem oe_abs (hm : X.mg "abs" = none) (ha : OE X W a ma) (hg : Gl X "abs" := by rfl) (hs : starEach [a] X.env = (false, eval a X.env) :: starEach [] X.env := by rfl) : OE X W (.Call (.Name "abs" p) [a] [] pos) (eCall pAbs (aCons ma aNil)) := oe_callB call_abs ok_abs hm (by decide +kernel) (oa_cons ha oa_nil hs) hg (by decide) (by decide) hs rfl
theorem oe_max2 (hc : X.calm = true) (hm : X.mg "max" = none) (ha : OE X W a ma) (hb : OE X W b mb) (hg : Gl X "max" := by rfl) (hs : starEach [a, b] X.env = (false, eval a X.env) :: starEach [b] X.env := by rfl) (hs2 : starEach [b] X.env = (false, eval b X.env) :: starEach [] X.env := by rfl) (hp : (backTo pos (starEach [b] X.env)).any (·.1) = false := by rfl) :
    OE X W (.Call (.Name "max" p) [a, b] [] pos) (eCall pMax2 (aCons ma (aCons mb aNil))) := oe_callB (call_max2 hc) ok_max2 hm (by decide +kernel) (oa_cons ha (oa_cons hb oa_nil hs2) hs) hg (by decide) (by decide) hs hp
theorem oe_min2 (hc : X.calm = true) (hm : X.mg "min" = none) (ha : OE X W a ma) (hb : OE X W b mb) (hg : Gl X "min" := by rfl) (hs : starEach [a, b] X.env = (false, eval a X.env) :: starEach [b] X.env := by rfl) (hs2 : starEach [b] X.env = (false, eval b X.env) :: starEach [] X.env := by rfl) (hp : (backTo pos (starEach [b] X.env)).any (·.1) = false := by rfl) :
    OE X W (.Call (.Name "min" p) [a, b] [] pos) (eCall pMin2 (aCons ma (aCons mb aNil))) := oe_callB (call_min2 hc) ok_min2 hm (by decide +kernel) (oa_cons ha (oa_cons hb oa_nil hs2) hs) hg (by decide) (by decide) hs hp
theorem oe_divmod (hm : X.mg "divmod" = none) (ha : OE X W a ma) (hb : OE X W b mb) (hg : Gl X "divmod" := by rfl) (hs : starEach [a, b] X.env = (false, eval a X.env) :: starEach [b] X.env := by rfl) (hs2 : starEach [b] X.env = (false, eval b X.env) :: starEach [] X.env := by rfl) (hp : (backTo pos (starEach [b] X.env)).any (·.1) = false := by rfl) :
    OE X W (.Call (.Name "divmod" p) [a, b] [] pos) (eCall pDivmod (aCons ma (aCons mb aNil))) := oe_callB call_divmod ok_divmod hm (by decide +kernel) (oa_cons ha (oa_cons hb oa_nil hs2) hs) hg (by decide) (by decide) hs hp
theorem oe_tupleC (hm : X.mg "tuple" = none) (ha : OE X W a ma) (hg : Gl X "tuple" := by rfl) (hs : starEach [a] X.env = (false, eval a X.env) :: starEach [] X.env := by rfl) : OE X W (.Call (.Name "tuple" p) [a] [] pos) (eCall pTuple (aCons ma aNil)) := oe_callTy call_tuple_of ok_tuple hm (by decide +kernel) (oa_cons ha oa_nil hs) hg (by decide) (by decide) hs rfl
theorem oe_listC (hm : X.mg "list" = none) (ha : OE X W a ma) (hg : Gl X "list" := by rfl) (hs : starEach [a] X.env = (false, eval a X.env) :: starEach [] X.env := by rfl) : OE X W (.Call (.Name "list" p) [a] [] pos) (eCall pList (aCons ma aNil)) := oe_callTy call_list_of ok_list hm (by decide +kernel) (oa_cons ha oa_nil hs) hg (by decide) (by decide) hs rfl
theorem oe_intC (hm : X.mg "int" = none) (ha : OE X W a ma) (hg : Gl X "int" := by rfl) (hs : starEach [a] X.env = (false, eval a X.env) :: starEach [] X.env := by rfl) : OE X W (.Call (.Name "int" p) [a] [] pos) (eCall pInt (aCons ma aNil)) := oe_callTy call_int1 ok_int hm (by decide +kernel) (oa_cons ha oa_nil hs) hg (by decide) (by decide) hs rfl
theorem oe_index (ho : OE X W o mo) (ha : OE X W a ma) (hbase : attributeBase o "index" X.env (eval o X.env) = eval o X.env := by rfl) (hs : starEach [a] X.env = (false, eval a X.env) :: starEach [] X.env := by rfl) (hline : (apos.endLine == pos.line) = true := by rfl)
    (hfew : ((backTo pos (starEach [a] X.env)).all (fun x => !x.1) && (backToKw pos (keywordEach [] X.env)).all (fun x => x.1.isSome) && decide (([a] : List Expr).length + ([] : List Keyword).length + (if ([] : List Keyword).isEmpty then 0 else 1) < 30)) = true := by rfl) :
    OE X W (.Call (.Attribute o "index" apos) [a] [] pos) (eMthT "list" pIndex mo (aCons ma aNil)) := oe_bm PySem.F.plainAttrs_list PySem.F.slot_list_index PySem.F.type_list_index mt_index ok_index ho (oa_cons ha oa_nil hs) hbase hfew hline hs rfl
theorem oe_join (ho : OE X W o mo) (ha : OE X W a ma) (hbase : attributeBase o "join" X.env (eval o X.env) = eval o X.env := by rfl) (hs : starEach [a] X.env = (false, eval a X.env) :: starEach [] X.env := by rfl) (hline : (apos.endLine == pos.line) = true := by rfl)
    (hfew : ((backTo pos (starEach [a] X.env)).all (fun x => !x.1) && (backToKw pos (keywordEach [] X.env)).all (fun x => x.1.isSome) && decide (([a] : List Expr).length + ([] : List Keyword).length + (if ([] : List Keyword).isEmpty then 0 else 1) < 30)) = true := by rfl) :
    OE X W (.Call (.Attribute o "join" apos) [a] [] pos) (eMthT "str" pJoin mo (aCons ma aNil)) := oe_bm PySem.F.plainAttrs_str PySem.F.slot_str_join PySem.F.type_str_join mt_join ok_join ho (oa_cons ha oa_nil hs) hbase hfew hline hs rfl
theorem oe_split (ho : OE X W o mo) (ha : OE X W a ma) (hbase : attributeBase o "split" X.env (eval o X.env) = eval o X.env := by rfl) (hs : starEach [a] X.env = (false, eval a X.env) :: starEach [] X.env := by rfl) (hline : (apos.endLine == pos.line) = true := by rfl)
    (hfew : ((backTo pos (starEach [a] X.env)).all (fun x => !x.1) && (backToKw pos (keywordEach [] X.env)).all (fun x => x.1.isSome) && decide (([a] : List Expr).length + ([] : List Keyword).length + (if ([] : List Keyword).isEmpty then 0 else 1) < 30)) = true := by rfl) :
    OE X W (.Call (.Attribute o "split" apos) [a] [] pos) (eMthT "str" pSplit mo (aCons ma aNil)) := oe_bm PySem.F.plainAttrs_str PySem.F.slot_str_split PySem.F.type_str_split mt_split ok_split ho (oa_cons ha oa_nil hs) hbase hfew hline hs rfl
theorem oe_partition (ho : OE X W o mo) (ha : OE X W a ma) (hbase : attributeBase o "partition" X.env (eval o X.env) = eval o X.env := by rfl) (hs : starEach [a] X.env = (false, eval a X.env) :: starEach [] X.env := by rfl) (hline : (apos.endLine == pos.line) = true := by rfl)
    (hfew : ((backTo pos (starEach [a] X.env)).all (fun x => !x.1) && (backToKw pos (keywordEach [] X.env)).all (fun x => x.1.isSome) && decide (([a] : List Expr).length + ([] : List Keyword).length + (if ([] : List Keyword).isEmpty then 0 else 1) < 30)) = true := by rfl) :
    OE X W (.Call (.Attribute o "partition" apos) [a] [] pos) (eMthT "str" pPartition mo (aCons ma aNil)) := oe_bm PySem.F.plainAttrs_str PySem.F.slot_str_partition PySem.F.type_str_partition mt_partition ok_partition ho (oa_cons ha oa_nil hs) hbase hfew hline hs rfl
def pBits : P → Option P
  | .int i => some (.int (Builtin.Int.intBits i : Nat))
  | _ => none
theorem oe_bits (ho : OE X W o mo) (hbase : attributeBase o "bit_length" X.env (eval o X.env) = eval o X.env := by rfl) (hline : (apos.endLine == pos.line) = true := by rfl) : OE X W (.Call (.Attribute o "bit_length" apos) [] [] pos) (eUn pBits mo) := by
  obtain ⟨t, p, ho⟩ := ho
  refine ⟨_, pe_bits p hbase hline, fun ρ S io F σ H Q st en h => ?_⟩
  refine ho ρ S io F σ H _ st en (RG.bind h fun d S1 io1 F1 H1 v e1 n1 s1 r1 h1 => ?_)
  refine s1.op1 (r := fun x H1 Q => ∃ i, x = .int i ∧ Q (.int (Builtin.Int.intBits i : Nat)) H1) (fun io F S H x v z Q st rx e k => ?_) r1 h1
  cases x with
  | int i =>
    cases e
    exact ⟨i, rx, k F H _ Nxt.refl st rfl⟩
  | _ => cases e
def inP (y : P) (xs : List P) : Bool := xs.any fun x => x.eqv y
def occB (x s : List Nat) : Bool := !(Builtin.Str.occurrences (strOf s) (strOf x) 0 (strOf s).length 1).isEmpty
def pIn : P → P → Option P
  | y, .lst xs => if flatP y && xs.all flatP then some (.bl (inP y xs)) else none
  | y, .tup xs => if flatP y && xs.all flatP then some (.bl (inP y xs)) else none
  | .str x, .str s => some (.bl (occB x s))
  | _, _ => none
def pNotIn (x y : P) : Option P := match pIn x y with
  | some (.bl b) => some (.bl (!b))
  | _ => none
theorem inP_ok {K : PySem.W.Frag} {F : Hp} {y : P} {w : V} (hy : flatP y = true) (ry : Rep K F y w) : ∀ {xs : List P} {vs : List V}, xs.all flatP = true → RepL K F xs vs → inV w vs = inP y xs
  | [], vs, _, r => by
    have r : _ = _ := r
    subst r
    rfl
  | x :: xs, vs, h, ⟨v, u, e1, h1, h2⟩ => by
    subst e1
    rw [List.all_cons, Bool.and_eq_true] at h
    show (eqV v w || inV w u) = (x.eqv y || inP y xs)
    rw [flat_eqv h.1 hy h1 ry, inP_ok hy ry h.2 h2]
theorem flatR {K : PySem.W.Frag} {F H : Hp} {y : P} {w : V} (hy : flatP y = true) (r : RepR K F H y w) : Rep K F y w := by
  cases y <;> first | exact r | cases hy
theorem ok_in {K : PySem.W.Frag} : BinOk K (fun x y H Q => rIn K false x y H Q ∨ ∃ i j, x = .str i ∧ y = .str j ∧ Q (.bl (!(Builtin.Str.occurrences j i 0 j.length 1).isEmpty)) H) pIn := by
  intro io F S H x y v w z Q st rx ry e k
  cases y with
  | lst xs =>
    have e : (if flatP x && xs.all flatP then some (P.bl (inP x xs)) else none) = some z := by
      cases x <;> exact e
    split at e
    · rename_i hf
      rw [Bool.and_eq_true] at hf
      cases e
      obtain ⟨a, vs, rfl, ha, ra⟩ := ry
      have rx := flatR hf.1 rx
      refine .inl ⟨a, vs, rfl, .inl (SqL.of ha), flat_rep hf.1 rx, flats_rep hf.2 ra, ?_⟩
      rw [if_neg Bool.false_ne_true, inP_ok hf.1 rx hf.2 ra]
      exact k F H _ Nxt.refl st rfl
    · cases e
  | tup xs =>
    have e : (if flatP x && xs.all flatP then some (P.bl (inP x xs)) else none) = some z := by
      cases x <;> exact e
    split at e
    · rename_i hf
      rw [Bool.and_eq_true] at hf
      cases e
      obtain ⟨a, vs, rfl, ha, ra⟩ := ry
      have rx := flatR hf.1 rx
      refine .inl ⟨a, vs, rfl, .inr (sqt_mono st.sub ha), flat_rep hf.1 rx, flats_rep hf.2 ra, ?_⟩
      rw [if_neg Bool.false_ne_true, inP_ok hf.1 rx hf.2 ra]
      exact k F H _ Nxt.refl st rfl
    · cases e
  | str s =>
    cases x with
    | str x =>
      have rx : _ = _ := rx
      have ry : _ = _ := ry
      subst rx; subst ry
      cases e
      exact .inr ⟨_, _, rfl, rfl, k F H _ Nxt.refl st rfl⟩
    | _ => cases e
  | _ => cases x <;> cases e
theorem ok_notIn {K : PySem.W.Frag} : BinOk K (fun x y H Q => rIn K true x y H Q ∨ ∃ i j, x = .str i ∧ y = .str j ∧ Q (.bl (!(!(Builtin.Str.occurrences j i 0 j.length 1).isEmpty))) H) pNotIn := by
  intro io F S H x y v w z Q st rx ry e k
  unfold pNotIn at e
  cases y with
  | lst xs =>
    have e : (match (if flatP x && xs.all flatP then some (P.bl (inP x xs)) else none) with
      | some (.bl b) => some (P.bl (!b))
      | _ => none) = some z := by
      cases x <;> exact e
    by_cases hf : (flatP x && xs.all flatP) = true
    · rw [if_pos hf] at e
      rw [Bool.and_eq_true] at hf
      cases e
      obtain ⟨a, vs, rfl, ha, ra⟩ := ry
      have rx := flatR hf.1 rx
      refine .inl ⟨a, vs, rfl, .inl (SqL.of ha), flat_rep hf.1 rx, flats_rep hf.2 ra, ?_⟩
      rw [if_pos rfl, inP_ok hf.1 rx hf.2 ra]
      exact k F H _ Nxt.refl st rfl
    · rw [if_neg hf] at e
      cases e
  | tup xs =>
    have e : (match (if flatP x && xs.all flatP then some (P.bl (inP x xs)) else none) with
      | some (.bl b) => some (P.bl (!b))
      | _ => none) = some z := by
      cases x <;> exact e
    by_cases hf : (flatP x && xs.all flatP) = true
    · rw [if_pos hf] at e
      rw [Bool.and_eq_true] at hf
      cases e
      obtain ⟨a, vs, rfl, ha, ra⟩ := ry
      have rx := flatR hf.1 rx
      refine .inl ⟨a, vs, rfl, .inr (sqt_mono st.sub ha), flat_rep hf.1 rx, flats_rep hf.2 ra, ?_⟩
      rw [if_pos rfl, inP_ok hf.1 rx hf.2 ra]
      exact k F H _ Nxt.refl st rfl
    · rw [if_neg hf] at e
      cases e
  | str s =>
    cases x with
    | str x =>
      have rx : _ = _ := rx
      have ry : _ = _ := ry
      subst rx; subst ry
      cases e
      exact .inr ⟨_, _, rfl, rfl, k F H _ Nxt.refl st rfl⟩
    | _ => cases e
  | _ => cases x <;> cases e
def pMul : P → P → Option P
  | .int i, .int j => if bMul i j then some (.int (i * j)) else none
  | .lst xs, .int j => if 0 ≤ j ∧ j ≤ 1000 ∧ xs.length ≤ 1000 then some (.lst (List.replicate j.toNat xs).flatten) else none
  | _, _ => none
theorem repL_flat {K : PySem.W.Frag} {F : Hp} {xs : List P} {vs : List V} (r : RepL K F xs vs) : ∀ n, RepL K F (List.replicate n xs).flatten (List.replicate n vs).flatten
  | 0 => .nil
  | n + 1 => by
    rw [List.replicate_succ, List.replicate_succ, List.flatten_cons, List.flatten_cons]
    exact r.append (repL_flat r n)
theorem ok_mul {K : PySem.W.Frag} : BinOk K (fun x y H Q => (rI CMul fun i j => .int (i * j)) x y H Q ∨ rRep x y H Q) pMul := by
  intro io F S H x y v w z Q st rx ry e k
  cases y with
  | int j =>
    have ry : _ = _ := ry
    subst ry
    cases x with
    | int i =>
      have rx : _ = _ := rx
      subst rx
      have e : (if bMul i j then some (P.int (i * j)) else none) = some z := e
      split at e
      · rename_i hb
        cases e
        exact .inl ⟨i, j, rfl, rfl, bMul_ok i j hb, k F H _ Nxt.refl st rfl⟩
      · cases e
    | lst xs =>
      obtain ⟨a, vs, rfl, ha, ra⟩ := rx
      have e : (if 0 ≤ j ∧ j ≤ 1000 ∧ xs.length ≤ 1000 then some (P.lst (List.replicate j.toNat xs).flatten) else none) = some z := e
      split at e
      · rename_i hb
        cases e
        obtain ⟨h0, h1, h2⟩ := hb
        have hz : vs.length * j.toNat ≤ sizeLine := by
          rw [ra.length]
          have : j.toNat ≤ 1000 := by omega
          exact Nat.le_trans (Nat.mul_le_mul h2 this) (by decide)
        refine .inr ⟨a, j, vs, rfl, rfl, ha, by omega, by omega, hz, fun p hp => ?_⟩
        obtain ⟨s3, n3⟩ := st.froze (o := .lst (List.replicate j.toNat vs).flatten) hp
        exact k _ _ _ n3 s3 ⟨p, _, rfl, upd_same, RepL.mono n3.fr (repL_flat ra _)⟩
      · cases e
    | _ => cases e
  | _ => cases x <;> cases e
theorem oe_mul (ha : OE X W a ma) (hb : OE X W b mb) : OE X W (.BinOp a .Mult b pos) (eBin pMul ma mb) := oe_bin (OpR.or op_mul op_rep) ok_mul ha hb
end
end Mir

namespace Mir
open PySem L2
def tE (K : PySem.W.Frag) (W : WX) (m : ME) : TE := fun σ H Q => ∃ ρ S io F, Sta K io F S H ∧ Mir.Env K io F ρ σ ∧ RG K (RepA K) (m ρ S) io F H Q (fun c d H' => W c d σ H')
def tT (K : PySem.W.Frag) (W : WX) (m : MT) : TT := fun σ H Q => ∃ ρ S io F, Sta K io F S H ∧ Mir.Env K io F ρ σ ∧ RG K RepB (m ρ S) io F H Q (fun c d H' => W c d σ H')
section
variable {X : Cx} {W : WX}
theorem OE.pe {e : Expr} {m : ME} (h : OE X W e m) : PE X e (tE X.K W m) := by
  obtain ⟨t, p, h⟩ := h
  exact ⟨fun pins s σ H Q I ⟨ρ, S, io, F, st, en, q⟩ => p.run pins s σ H Q I (h ρ S io F σ H Q st en q)⟩
theorem OT.pt {e : Expr} {m : MT} (h : OT X W e m) : PT X e (tT X.K W m) := by
  obtain ⟨t, p, h⟩ := h
  exact ⟨fun pins s σ H Q I ⟨ρ, S, io, F, st, en, q⟩ => p.run pins s σ H Q I (h ρ S io F σ H Q st en q)⟩
end
abbrev MG := Vl → En → Sto → Res En
def Agree (js : List Nat) (σ σ' : St) : Prop := σ'.length = σ.length ∧ ∀ j : Nat, j ∉ js → σ'[j]? = σ[j]?
def RepEn (K : PySem.W.Frag) (js : List Nat) (σ : St) : Io → Hp → En → St → Prop := fun io F ρ σ' => Mir.Env K io F ρ σ' ∧ Agree js σ σ'
def OG (X : Cx) (W : WX) (tg : Expr) (js : List Nat) (m : MG) : Prop := ∃ t, PG X tg t ∧ ∀ (d : Vl) (v : V) (ρ : En) (S : Sto) (io : Io) (F : Hp) (σ : St) (H : Hp) (Q : St → Hp → Prop), Sta X.K io F S H → Mir.Env X.K io F ρ σ → RepV X.K io F d v →
  RG X.K (RepEn X.K js σ) (m d ρ S) io F H Q (fun c d H' => W c d σ H') → t v σ H Q
def tG (K : PySem.W.Frag) (W : WX) (js : List Nat) (m : MG) : TG := fun v σ H Q => ∃ d ρ S io F, Sta K io F S H ∧ Mir.Env K io F ρ σ ∧ RepV K io F d v ∧ RG K (RepEn K js σ) (m d ρ S) io F H Q (fun c d H' => W c d σ H')
theorem OG.pg {X : Cx} {W : WX} {tg : Expr} {js : List Nat} {m : MG} (h : OG X W tg js m) : PG X tg (tG X.K W js m) := by
  obtain ⟨t, p, h⟩ := h
  exact ⟨fun pins s σ H v u Q I r ⟨d, ρ, S, io, F, st, en, rv, q⟩ => p.run pins s σ H v u Q I r (h d v ρ S io F σ H Q st en rv q)⟩
def gNm (i : Nat) : MG := fun d ρ S => .ok (ρ.set i (some d)) S
theorem agree_refl {js : List Nat} {σ : St} : Agree js σ σ := ⟨rfl, fun _ _ => rfl⟩
theorem agree_set {i : Nat} {σ : St} {o : Option V} : Agree [i] σ (σ.set i o) := ⟨by rw [List.length_set], fun j hj => by
  rw [List.getElem?_set_ne]
  intro e
  exact hj (by rw [e]; exact List.mem_singleton.mpr rfl)⟩
theorem agree_trans {is js : List Nat} {a b c : St} (h : Agree is a b) (h' : Agree js b c) : Agree (is ++ js) a c := ⟨h'.1.trans h.1, fun j hj => by
  rw [List.mem_append, not_or] at hj
  rw [h'.2 j hj.2, h.2 j hj.1]⟩
theorem wipe_get : ∀ (τ : St) (vs : List Nat) (j : Nat), (L2.wipe τ vs)[j]? = if j ∈ vs then (τ[j]?).map (fun _ => none) else τ[j]? := by
  intro τ vs
  induction vs with
  | nil => intro j; simp [L2.wipe]
  | cons v vs ih =>
    intro j
    unfold L2.wipe
    by_cases hj : v = j
    · subst hj
      rw [if_pos List.mem_cons_self]
      by_cases hl : v < (L2.wipe τ vs).length
      · rw [List.getElem?_set_self hl]
        rw [wipe_length] at hl
        rw [List.getElem?_eq_getElem hl]
        rfl
      · rw [List.getElem?_eq_none (by rw [List.length_set]; omega)]
        rw [wipe_length] at hl
        rw [List.getElem?_eq_none (by omega)]
        rfl
    · rw [List.getElem?_set_ne hj, ih j]
      have : (j ∈ v :: vs) ↔ j ∈ vs := by
        constructor
        · intro h
          rcases List.mem_cons.mp h with e | h
          · exact absurd e.symm hj
          · exact h
        · exact List.mem_cons_of_mem _
      simp only [this]
theorem wipe_agree {js vs : List Nat} {σ σ' : St} (h : Agree js σ σ') (hs : ∀ j ∈ js, j ∈ vs) : L2.wipe σ' vs = L2.wipe σ vs := by
  apply List.ext_getElem?
  intro j
  rw [wipe_get, wipe_get]
  by_cases hj : j ∈ vs
  · rw [if_pos hj, if_pos hj]
    by_cases hl : j < σ.length
    · rw [List.getElem?_eq_getElem hl, List.getElem?_eq_getElem (by rw [h.1]; exact hl)]
      rfl
    · rw [List.getElem?_eq_none (by rw [h.1]; omega), List.getElem?_eq_none (by omega)]
  · rw [if_neg hj, if_neg hj]
    exact h.2 j fun z => hj (hs j z)
section
variable {X : Cx} {W : WX} {pos : Pos}
theorem og_name {i : Nat} {x : Str} (hN : X.N.Nodup) (hi : X.N[i]? = some x := by rfl) (hx : Loc X.env.scope x := by first | exact Or.inl rfl | exact Or.inr rfl) (hf : X.fn x = true ∨ X.env.scope.names.lookup x = some .local := by first | exact .inl rfl | exact .inr rfl) : OG X W (.Name x pos) [i] (gNm i) := by
  refine ⟨_, pg_name hN hi hx hf, fun d v ρ S io F σ H Q st en rv h => ?_⟩
  exact h io F H (σ.set i (some v)) Nxt.refl st ⟨en.set rv i, agree_set⟩
abbrev MGs := List Vl → En → Sto → Res En
def OGs (X : Cx) (W : WX) (ts : List Expr) (js : List Nat) (m : MGs) : Prop := ∃ t, PGs X ts t ∧ ∀ (ds : List Vl) (vs : List V) (ρ : En) (S : Sto) (io : Io) (F : Hp) (σ : St) (H : Hp) (Q : St → Hp → Prop), Sta X.K io F S H → Mir.Env X.K io F ρ σ → RepVs X.K io F ds vs →
  RG X.K (RepEn X.K js σ) (m ds ρ S) io F H Q (fun c d H' => W c d σ H') → t vs σ H Q
def gNl : MGs := fun ds ρ S => match ds with
  | [] => .ok ρ S
  | _ => .bad
def Res.nox {A : Type} (r : Res A) : Res A := match r with
  | .ok a S => .ok a S
  | _ => .bad
theorem RG.nox {K : PySem.W.Frag} {A B C D : Type} {R : Io → Hp → A → B → Prop} {R' : Io → Hp → C → D → Prop} {Q : D → Hp → Prop} {Q1 : B → Hp → Prop} {E E1 : XK} {io : Io} {F H : Hp} {r : Res A} {f : A → Sto → Res C} (h : RG K R' (r.nox.bind f) io F H Q E)
    (k : ∀ a S1 io1 F1 H1 v, r = .ok a S1 → Nxt io F H io1 F1 H1 → Sta K io1 F1 S1 H1 → R io1 F1 a v → RG K R' (f a S1) io1 F1 H1 Q E → Q1 v H1) : RG K R r io F H Q1 E1 := by
  cases r with
  | ok a S => exact fun io' F' H' v n s rp => k a S io' F' H' v rfl n s rp (RG.step n h)
  | exc c x S => exact h.elim
  | bad => exact h
def gCn (g : MG) (r : MGs) : MGs := fun ds ρ S => match ds with
  | d :: ds => (g d ρ S).nox.bind fun ρ1 S1 => r ds ρ1 S1
  | [] => .bad
theorem ogs_nil : OGs X W [] [] gNl := by
  refine ⟨_, pgs_nil, fun ds vs ρ S io F σ H Q st en rv h => ?_⟩
  cases ds with
  | nil =>
    have rv : _ = _ := rv
    subst rv
    exact ⟨rfl, h io F H σ Nxt.refl st ⟨en, agree_refl⟩⟩
  | cons d ds => exact h.elim
theorem RG.imp {K : PySem.W.Frag} {A B : Type} {R R1 : Io → Hp → A → B → Prop} {Q : B → Hp → Prop} {E : XK} {io : Io} {F H : Hp} {r : Res A} (hr : ∀ io F a b, R1 io F a b → R io F a b) (h : RG K R r io F H Q E) : RG K R1 r io F H Q E := by
  cases r with
  | ok a S => exact fun io' F' H' v n s rp => h io' F' H' v n s (hr _ _ _ _ rp)
  | exc c x S => exact h
  | bad => exact h
theorem ogs_cons {e : Expr} {es : List Expr} {js ks : List Nat} {g : MG} {r : MGs} (h1 : OG X (fun _ _ _ _ => False) e js g) (h2 : OGs X (fun _ _ _ _ => False) es ks r) (hs : (assignEach (e :: es) X.env).map (·.2) = assign e X.env :: (assignEach es X.env).map (·.2) := by rfl) : OGs X (fun _ _ _ _ => False) (e :: es) (js ++ ks) (gCn g r) := by
  obtain ⟨t, p, h1⟩ := h1
  obtain ⟨u, q, h2⟩ := h2
  refine ⟨_, pgs_cons p q hs, fun ds vs ρ S io F σ H Q st en rv h => ?_⟩
  cases ds with
  | nil => exact h.elim
  | cons d ds =>
    obtain ⟨v, w, e1, r1, r2⟩ := rv
    subst e1
    refine ⟨v, w, rfl, ?_⟩
    refine h1 d v ρ S io F σ H _ st en r1 (RG.nox h fun ρ1 S1 io1 F1 H1 σ1 e1 n1 s1 rr h3 => ?_)
    refine h2 ds w ρ1 S1 io1 F1 σ1 H1 Q s1 rr.1 (r2.mono n1.han n1.fr) (RG.imp ?_ h3)
    rintro io F ρ2 σ2 ⟨a, b⟩
    exact ⟨a, agree_trans rr.2 b⟩
def gTp (n : Nat) (r : MGs) : MG := fun d ρ S => match d with
  | .p (.tup xs) => if xs.length = n then r (xs.map Vl.p) ρ S else .bad
  | _ => .bad
theorem og_tup {es : List Expr} {k n : Nat} {js : List Nat} {r : MGs} (hc : X.calm = true) (h : OGs X W es js r) (hn : (assignEach es X.env).length = n := by rfl) (hst : (assignEach es X.env).findIdx? (·.1) = none := by rfl) : OG X W (.Tuple es k pos) js (gTp n r) := by
  obtain ⟨t, p, h⟩ := h
  refine ⟨_, pg_tup hc p hn hst, fun d v ρ S io F σ H Q st en rv hw => ?_⟩
  cases d with
  | c k => exact hw.elim
  | p x =>
    cases x with
    | tup xs =>
      obtain ⟨a, vs, rfl, ha, ra⟩ := rv
      have hw : RG X.K (RepEn X.K js σ) (if xs.length = n then r (xs.map Vl.p) ρ S else .bad) io F H Q (fun c d H' => W c d σ H') := hw
      by_cases hl : xs.length = n
      · rw [if_pos hl] at hw
        exact ⟨a, vs, rfl, sqt_mono st.sub ha, by rw [ra.length]; exact hl, h _ vs ρ S io F σ H Q st en (RepVs.pure.mpr ra) hw⟩
      · rw [if_neg hl] at hw
        exact hw.elim
    | _ => exact hw.elim
end
def IterOk (K : PySem.W.Frag) (F : Hp) (xs : List P) (J : It) : Prop := ∀ (io' : Io) (F' : Hp) (S' : Sto) (H' : Hp) (i : Nat), Same F F' → Sta K io' F' S' H' →
  (∀ x, xs[i]? = some x → J.go i H' ∧ ∀ v H'', J.yld i H' v H'' → ∃ F'', Nxt io' F' H' io' F'' H'' ∧ Sta K io' F'' S' H'' ∧ Rep K F'' x v) ∧ (xs[i]? = none → J.stop i H')
def RepJ (K : PySem.W.Frag) : Io → Hp → List P → It → Prop := fun _ F xs J => IterOk K F xs J
abbrev MI := En → Sto → Res (List P)
def OI (X : Cx) (W : WX) (tg iter : Expr) (m : MI) : Prop := ∃ t, PI X tg iter t ∧ ∀ (ρ : En) (S : Sto) (io : Io) (F : Hp) (σ : St) (H : Hp) (R : It → Hp → Prop), Sta X.K io F S H → Mir.Env X.K io F ρ σ →
  RG X.K (RepJ X.K) (m ρ S) io F H R (fun c d H' => W c d σ H') → t σ H R
theorem PI.or {X : Cx} {tg iter : Expr} {a b : TI} (h : PI X tg iter a) (h' : PI X tg iter b) : PI X tg iter (fun σ H R => a σ H R ∨ b σ H R) := ⟨fun pins s σ H R I q => by
  rcases q with q | q
  · exact h.run pins s σ H R I q
  · exact h'.run pins s σ H R I q⟩
def itemsP : P → Option (List P)
  | .lst xs => some xs
  | .tup xs => some xs
  | .scr xs => some xs
  | .str x => some (x.map fun c => .str [c])
  | _ => none
def itOf (m : ME) : MI := fun ρ S => (m ρ S).bind fun d S1 => (frz d S1).bind fun x S2 => match itemsP x with
  | some xs => .ok xs S2
  | none => .bad
section
variable {K : PySem.W.Frag} {F : Hp}
theorem iter_list {a : Addr} {xs : List P} {vs : List V} (h : SqL K F a vs) (r : RepL K F xs vs) : IterOk K F xs (Itl K a) := by
  intro io' F' S' H' i hF st
  have hs : SqL K H' a vs := sql_mono (hF.trans st.sub) h
  refine ⟨fun x hx => ?_, fun hx => ?_⟩
  · obtain ⟨v, hv, hr⟩ := r.get hx
    refine ⟨⟨vs, v, hs, hv⟩, fun w H'' y => ?_⟩
    obtain ⟨e, y⟩ := y
    subst e
    have := y vs hs
    rw [hv] at this
    cases this
    exact ⟨F', Nxt.refl, st, Rep.mono hF hr⟩
  · refine ⟨vs, hs, ?_⟩
    rw [r.length]
    exact List.getElem?_eq_none_iff.mp hx
theorem iter_tup {a : Addr} {xs : List P} {vs : List V} (h : SqT K F a vs) (r : RepL K F xs vs) : IterOk K F xs (Itt K a) := by
  intro io' F' S' H' i hF st
  have hs : SqT K H' a vs := sqt_mono (hF.trans st.sub) h
  refine ⟨fun x hx => ?_, fun hx => ?_⟩
  · obtain ⟨v, hv, hr⟩ := r.get hx
    refine ⟨⟨vs, v, hs, hv⟩, fun w H'' y => ?_⟩
    obtain ⟨e, y⟩ := y
    subst e
    have := y vs hs
    rw [hv] at this
    cases this
    exact ⟨F', Nxt.refl, st, Rep.mono hF hr⟩
  · refine ⟨vs, hs, ?_⟩
    rw [r.length]
    exact List.getElem?_eq_none_iff.mp hx
theorem iter_str {x : List Nat} : IterOk K F (x.map fun c => P.str [c]) (Its (strOf x)) := by
  intro io' F' S' H' i hF st
  refine ⟨fun y hy => ?_, fun hy => ?_⟩
  · rw [List.getElem?_map] at hy
    cases hc : x[i]? with
    | none => rw [hc] at hy; cases hy
    | some c =>
      rw [hc] at hy
      have hy : P.str [c] = y := Option.some.inj hy
      subst hy
      have hi : i < x.length := (List.getElem?_eq_some_iff.mp hc).1
      refine ⟨by show i < x.toArray.size; simpa using hi, fun v H'' yl => ?_⟩
      obtain ⟨e, c', hc', hv⟩ := yl
      subst e
      have : x[i]? = some c' := by
        have hc'' : x.toArray[i]? = some c' := hc'
        simpa using hc''
      rw [hc] at this
      cases this
      exact ⟨F', Nxt.refl, st, hv⟩
  · rw [List.getElem?_map] at hy
    show x.toArray.size ≤ i
    cases hc : x[i]? with
    | none =>
      have := List.getElem?_eq_none_iff.mp hc
      simpa using this
    | some c => rw [hc] at hy; cases hy
end
section
variable {X : Cx} {W : WX} {a b e : Expr} {ma mb : ME} {pos p tpos : Pos} {tg : Expr}
theorem oi_of (h : OE X W e ma) : OI X W tg e (itOf ma) := by
  obtain ⟨t, pe, h⟩ := h
  refine ⟨_, PI.or (PI.or (pi_list pe) (pi_tup pe)) (pi_str pe), fun ρ S io F σ H R st en hw => ?_⟩
  cases e1 : ma ρ S with
  | bad => unfold itOf at hw; rw [e1] at hw; exact hw.elim
  | exc c x S1 =>
    refine .inl (.inl (h ρ S io F σ H _ st en ?_))
    unfold itOf at hw
    rw [e1] at hw ⊢
    exact hw
  | ok d S1 =>
    have hw : RG X.K (RepJ X.K) ((frz d S1).bind fun x S2 => match itemsP x with
      | some xs => .ok xs S2
      | none => .bad) io F H R (fun c d H' => W c d σ H') := by
      unfold itOf at hw
      rw [e1] at hw
      exact hw
    have go : ∀ (Q : VK), (∀ io1 F1 H1 v, Nxt io F H io1 F1 H1 → Sta X.K io1 F1 S1 H1 → RepV X.K io1 F1 d v → Q v H1) → t σ H Q := fun Q q => h ρ S io F σ H Q st en (by rw [e1]; exact q)
    cases e2 : frz d S1 with
    | bad => rw [e2] at hw; exact hw.elim
    | exc c x S2 =>
      exact absurd e2 (frz_nox _ _ _ _ _)
    | ok x S2 =>
      cases x with
      | lst xs =>
        refine .inl (.inl (go _ fun io1 F1 H1 v n1 s1 r1 => ?_))
        obtain ⟨x', S2', F2, n2, s2, rp, hz, h2⟩ := s1.frz r1 (RG.step n1 hw)
        rw [e2] at hz; cases hz
        obtain ⟨a, vs, rfl, ha, ra⟩ := rp
        exact ⟨a, rfl, ⟨vs, SqL.of (s2.sub _ _ ha)⟩, h2 io1 F2 H1 (Itl X.K a) Nxt.refl s2 (iter_list (SqL.of ha) ra)⟩
      | scr xs =>
        refine .inl (.inl (go _ fun io1 F1 H1 v n1 s1 r1 => ?_))
        obtain ⟨x', S2', F2, n2, s2, rp, hz, h2⟩ := s1.frz r1 (RG.step n1 hw)
        rw [e2] at hz; cases hz
        obtain ⟨a, vs, rfl, ha, ra⟩ := rp
        exact ⟨a, rfl, ⟨vs, sql_mono s2.sub ha⟩, h2 io1 F2 H1 (Itl X.K a) Nxt.refl s2 (iter_list ha ra)⟩
      | tup xs =>
        refine .inl (.inr (go _ fun io1 F1 H1 v n1 s1 r1 => ?_))
        obtain ⟨x', S2', F2, n2, s2, rp, hz, h2⟩ := s1.frz r1 (RG.step n1 hw)
        rw [e2] at hz; cases hz
        obtain ⟨a, vs, rfl, ha, ra⟩ := rp
        exact ⟨a, rfl, ⟨vs, sqt_mono s2.sub ha⟩, h2 io1 F2 H1 (Itt X.K a) Nxt.refl s2 (iter_tup ha ra)⟩
      | str xs =>
        refine .inr (go _ fun io1 F1 H1 v n1 s1 r1 => ?_)
        obtain ⟨x', S2', F2, n2, s2, rp, hz, h2⟩ := s1.frz r1 (RG.step n1 hw)
        rw [e2] at hz; cases hz
        have rp : v = .str (strOf xs) := rp
        subst rp
        exact ⟨strOf xs, rfl, h2 io1 F2 H1 (Its (strOf xs)) Nxt.refl s2 iter_str⟩
      | _ => rw [e2] at hw; exact hw.elim
def rangeP (lo : Int) (n : Nat) : List P := (List.range n).map fun (k : Nat) => P.int (lo + (k : Int))
def itRange1 (m : ME) : MI := fun ρ S => (m ρ S).bind fun d S1 => match d with
  | .p (.int j) => if j < 2 ^ 62 ∧ -(2 ^ 62) ≤ j then .ok (rangeP 0 j.toNat) S1 else .bad
  | _ => .bad
def itRange2 (m m2 : ME) : MI := fun ρ S => (m ρ S).bind fun d S1 => (m2 ρ S1).bind fun d2 S2 => match d, d2 with
  | .p (.int i), .p (.int j) => if (-(2 ^ 62) ≤ i ∧ i < 2 ^ 62) ∧ (-(2 ^ 62) ≤ j ∧ j < 2 ^ 62) then .ok (rangeP i (j - i).toNat) S2 else .bad
  | _, _ => .bad
theorem iter_range {K : PySem.W.Frag} {F : Hp} {lo : Int} {n : Nat} : IterOk K F (rangeP lo n) (Itr lo n) := by
  intro io' F' S' H' i hF st
  have hl : (rangeP lo n)[i]? = if i < n then some (P.int (lo + (i : Int))) else none := by
    unfold rangeP
    rw [List.getElem?_map]
    by_cases hi : i < n
    · rw [if_pos hi, List.getElem?_range hi]; rfl
    · rw [if_neg hi, List.getElem?_eq_none (by simpa using hi)]; rfl
  refine ⟨fun x hx => ?_, fun hx => ?_⟩
  · rw [hl] at hx
    by_cases hi : i < n
    · rw [if_pos hi] at hx
      cases hx
      refine ⟨hi, fun v H'' y => ?_⟩
      obtain ⟨e, hv⟩ := y
      subst e
      exact ⟨F', Nxt.refl, st, hv⟩
    · rw [if_neg hi] at hx; cases hx
  · rw [hl] at hx
    by_cases hi : i < n
    · rw [if_pos hi] at hx; cases hx
    · exact Nat.le_of_not_lt hi
theorem oi_range1 (hm : X.mg "range" = none) (h : OE X W a ma) (hg : Gl X "range" := by rfl) (hs : starEach [a] X.env = (false, eval a X.env) :: starEach [] X.env := by rfl) : OI X W tg (.Call (.Name "range" p) [a] [] pos) (itRange1 ma) := by
  obtain ⟨t, q, h⟩ := h
  refine ⟨_, pi_range1 hg hm (pa_cons q pa_nil hs) hs, fun ρ S io F σ H R st en hw => ?_⟩
  refine h ρ S io F σ H _ st en (RG.bind hw fun d S1 io1 F1 H1 v e1 n1 s1 r1 h1 => ?_)
  cases d with
  | c k => exact h1.elim
  | p x =>
    cases x with
    | int j =>
      have r1 : v = .int j := r1
      subst r1
      dsimp only at h1
      by_cases hb : j < 2 ^ 62 ∧ -(2 ^ 62) ≤ j
      · rw [if_pos hb] at h1
        exact ⟨j, rfl, hb.2, hb.1, h1 io1 F1 H1 _ Nxt.refl s1 iter_range⟩
      · rw [if_neg hb] at h1
        exact h1.elim
    | _ => exact h1.elim
theorem oi_range2 (hm : X.mg "range" = none) (h : OE X W a ma) (h' : OE X W b mb) (hg : Gl X "range" := by rfl) (hs : starEach [a, b] X.env = (false, eval a X.env) :: starEach [b] X.env := by rfl) (hs2 : starEach [b] X.env = (false, eval b X.env) :: starEach [] X.env := by rfl)
    (hs3 : starEach [a, b] X.env = [(false, eval a X.env), (false, eval b X.env)] := by rfl) : OI X W tg (.Call (.Name "range" p) [a, b] [] pos) (itRange2 ma mb) := by
  obtain ⟨t, q, h⟩ := h
  obtain ⟨t2, q2, h'⟩ := h'
  refine ⟨_, pi_range2 hg hm (pa_cons q (pa_cons q2 pa_nil hs2) hs) hs3 hs2, fun ρ S io F σ H R st en hw => ?_⟩
  refine h ρ S io F σ H _ st en (RG.bind hw fun d S1 io1 F1 H1 v e1 n1 s1 r1 h1 => ?_)
  refine h' ρ S1 io1 F1 σ H1 _ s1 (en.nxt n1) (RG.bind h1 fun d2 S2 io2 F2 H2 v2 e2 n2 s2 r2 h2 => ?_)
  cases d with
  | c k => exact h2.elim
  | p x =>
    cases x with
    | int i =>
      have r1 : v = .int i := r1
      subst r1
      cases d2 with
      | c k => exact h2.elim
      | p y =>
        cases y with
        | int j =>
          have r2 : v2 = .int j := r2
          subst r2
          dsimp only at h2
          by_cases hb : (-(2 ^ 62) ≤ i ∧ i < 2 ^ 62) ∧ (-(2 ^ 62) ≤ j ∧ j < 2 ^ 62)
          · rw [if_pos hb] at h2
            exact ⟨i, j, rfl, ⟨hb.1.1, hb.1.2, hb.2.1, hb.2.2⟩, h2 io2 F2 H2 _ Nxt.refl s2 iter_range⟩
          · rw [if_neg hb] at h2
            exact h2.elim
        | _ => exact h2.elim
    | _ => exact h2.elim
def enumP (n : Nat) : List P → List P
  | [] => []
  | x :: xs => .tup [.int n, x] :: enumP (n + 1) xs
theorem enumP_get : ∀ (xs : List P) (n i : Nat), (enumP n xs)[i]? = (xs[i]?).map fun x => P.tup [.int ((n + i : Nat) : Int), x]
  | [], n, i => by simp [enumP]
  | x :: xs, n, 0 => by simp [enumP]
  | x :: xs, n, i + 1 => by
    show (enumP (n + 1) xs)[i]? = _
    rw [enumP_get xs (n + 1) i]
    simp only [List.getElem?_cons_succ]
    congr 1
    funext x
    congr 2
    have : ((n + 1 + i : Nat) : Int) = ((n + (i + 1) : Nat) : Int) := by omega
    rw [this]
def itEnum (m : ME) : MI := fun ρ S => (m ρ S).bind fun d S1 => (frz d S1).bind fun x S2 => match x with
  | .lst xs => .ok (enumP 0 xs) S2
  | _ => .bad
theorem iter_enum {K : PySem.W.Frag} {F : Hp} {a : Addr} {xs : List P} {vs : List V} (h : SqL K F a vs) (r : RepL K F xs vs) : IterOk K F (enumP 0 xs) (Ite K a) := by
  intro io' F' S' H' i hF st
  have hs : SqL K H' a vs := sql_mono (hF.trans st.sub) h
  rw [enumP_get]
  refine ⟨fun x hx => ?_, fun hx => ?_⟩
  · cases q : xs[i]? with
    | none => rw [q] at hx; cases hx
    | some y =>
      rw [q] at hx
      have hx : P.tup [.int ((0 + i : Nat) : Int), y] = x := Option.some.inj hx
      subst hx
      obtain ⟨v, hv, hr⟩ := r.get q
      refine ⟨⟨vs, v, hs, hv⟩, fun w H'' yl => ?_⟩
      obtain ⟨T, u, rfl, hT, e, hu⟩ := yl
      subst e
      have := hu vs hs
      rw [hv] at this
      cases this
      obtain ⟨s3, n3⟩ := st.froze (o := .tup [.int (i : Nat), v]) hT
      refine ⟨_, n3, s3, T, _, rfl, SqT.of upd_same, .cons ?_ (.cons (Rep.mono n3.fr (Rep.mono hF hr)) .nil)⟩
      show V.int _ = V.int _
      rw [Nat.zero_add]
  · refine ⟨vs, hs, ?_⟩
    rw [r.length]
    cases q : xs[i]? with
    | none => exact List.getElem?_eq_none_iff.mp q
    | some y => rw [q] at hx; cases hx
theorem oi_enum {elts : List Expr} {kk : Nat} (hm : X.mg "enumerate" = none) (h : OE X W a ma) (hg : Gl X "enumerate" := by rfl) (hs : starEach [a] X.env = (false, eval a X.env) :: starEach [] X.env := by rfl) : OI X W (.Tuple elts kk tpos) (.Call (.Name "enumerate" p) [a] [] pos) (itEnum ma) := by
  obtain ⟨t, q, h⟩ := h
  refine ⟨_, pi_enum hg hm (pa_cons q pa_nil hs) hs, fun ρ S io F σ H R st en hw => ?_⟩
  refine h ρ S io F σ H _ st en (RG.bind hw fun d S1 io1 F1 H1 v e1 n1 s1 r1 h1 => ?_)
  obtain ⟨x, S2, F2, n2, s2, rp, hz, h2⟩ := s1.frz r1 h1
  cases x with
  | lst xs =>
    obtain ⟨a, vs, rfl, ha, ra⟩ := rp
    exact ⟨a, vs, rfl, SqL.of (s2.sub _ _ ha), h2 io1 F2 H1 _ Nxt.refl s2 (iter_enum (SqL.of ha) ra)⟩
  | _ => exact h2.elim
def zipP : List P → List P → List P
  | x :: xs, y :: ys => .tup [x, y] :: zipP xs ys
  | _, _ => []
def itZip (m m2 : ME) : MI := fun ρ S => (m ρ S).bind fun d S1 => (m2 ρ S1).bind fun d2 S2 => match d, d2 with
  | .p (.lst xs), .p (.lst ys) => .ok (zipP xs ys) S2
  | _, _ => .bad
end
end Mir

namespace Mir
open PySem L2
def sPass : MS := fun ρ S => .ok (.nx ρ) S
def sBreak : MS := fun ρ S => .ok (.bk ρ) S
def sNever : MS := fun _ _ => .bad
def RF.thn (r : RF) (b : MS) : RF := match r with
  | .ok (.nx ρ) S => b ρ S
  | .ok (.rt d) S => .ok (.rt d) S
  | .ok (.bk ρ) S => .ok (.bk ρ) S
  | .ok (.ct ρ) S => .ok (.ct ρ) S
  | .ok (.xc ρ c x) S => .ok (.xc ρ c x) S
  | .bad => .bad
def sSeq (a b : MS) : MS := fun ρ S => (a ρ S).thn b
def sExpr (e : ME) : MS := fun ρ S => (e ρ S).go ρ fun _ S1 => .ok (.nx ρ) S1
def sRet (e : ME) : MS := fun ρ S => (e ρ S).go ρ fun d S1 => .ok (.rt d) S1
def sRetN : MS := fun ρ S => .ok (.rt (.p .non)) S
def sIf (t : MT) (a b : MS) : MS := fun ρ S => (t ρ S).go ρ fun c S1 => match c with
  | true => a ρ S1
  | false => b ρ S1
def sAsg (e : ME) (g : MG) : MS := fun ρ S => (e ρ S).go ρ fun d S1 => ((g d ρ S1).nox).go ρ fun ρ1 S2 => .ok (.nx ρ1) S2
def sPar (i j : Nat) (a : MA) : MS := fun ρ S => (a ρ S).go ρ fun ds S1 => match ds with
  | [d, d2] => .ok (.nx ((ρ.set i (some d)).set j (some d2))) S1
  | _ => .bad
def forGo (g : MG) (b : MS) : List P → En → Sto → RF
  | [], ρ, S => .ok (.nx ρ) S
  | x :: xs, ρ, S => ((g (.p x) ρ S).nox).go ρ fun ρ1 S1 => match b ρ1 S1 with
    | .ok (.nx ρ2) S2 => forGo g b xs ρ2 S2
    | .ok (.ct ρ2) S2 => forGo g b xs ρ2 S2
    | .ok (.bk ρ2) S2 => .ok (.nx ρ2) S2
    | .ok (.rt d) S2 => .ok (.rt d) S2
    | .ok (.xc ρ2 c x) S2 => .ok (.xc ρ2 c x) S2
    | .bad => .bad
def sFor (it : MI) (g : MG) (b : MS) : MS := fun ρ S => (it ρ S).go ρ fun xs S1 => forGo g b xs ρ S1
def whGo (t : MT) (b : MS) : Nat → En → Sto → RF
  | 0, _, _ => .bad
  | n + 1, ρ, S => (t ρ S).go ρ fun c S1 => match c with
    | false => .ok (.nx ρ) S1
    | true => match b ρ S1 with
      | .ok (.nx ρ2) S2 => whGo t b n ρ2 S2
      | .ok (.ct ρ2) S2 => whGo t b n ρ2 S2
      | .ok (.bk ρ2) S2 => .ok (.nx ρ2) S2
      | .ok (.rt d) S2 => .ok (.rt d) S2
      | .ok (.xc ρ2 c x) S2 => .ok (.xc ρ2 c x) S2
      | .bad => .bad
def sWhile (n : Nat) (t : MT) (b : MS) : MS := fun ρ S => whGo t b n ρ S
section
variable {X : Cx} {W : WX} {st : Stmt} {rest : List Stmt} {a b c e tg iter : Expr} {ma mb : ME} {m m2 : MS} {pos : Pos} {mt : MT}
theorem oss_nil : OSs X W [] sPass := ⟨_, pss_nil, fun ρ S io F σ H D s en h => h io F H σ Nxt.refl s en⟩
theorem oss_cons (h1 : OS X W st m) (h2 : OSs X W rest m2) : OSs X W (st :: rest) (sSeq m m2) := by
  obtain ⟨t, p, h1⟩ := h1
  obtain ⟨u, q, h2⟩ := h2
  refine ⟨_, pss_cons p q, fun ρ S io F σ H D s en h => ?_⟩
  refine h1 ρ S io F σ H _ s en ?_
  have h : RS X.K ((m ρ S).thn m2) io F H D W := h
  cases r : m ρ S with
  | bad => rw [r] at h; exact h
  | ok f S1 =>
    rw [r] at h
    cases f with
    | nx ρ1 => exact fun io1 F1 H1 σ1 n1 s1 en1 => h2 ρ1 S1 io1 F1 σ1 H1 D s1 en1 (RS.step n1 h)
    | rt d => exact h
    | bk ρ1 => exact h
    | ct ρ1 => exact h
    | xc ρ1 c x => exact h
theorem oss_one (h1 : OS X W st m) : OSs X W [st] m := by
  obtain ⟨t, p, h1⟩ := h1
  exact ⟨_, pss_one p, h1⟩
theorem os_break : OS X W (.Break pos) sBreak := ⟨_, ps_break, fun ρ S io F σ H D s en h => h io F H σ Nxt.refl s en⟩
theorem os_never : OS X W st sNever := ⟨_, ps_never, fun ρ S io F σ H D s en h => h.elim⟩
theorem os_expr (he : OE X W e ma) (hs : swapsWith e none pos.line X.env = pure false := by rfl) : OS X W (.Expr e pos) (sExpr ma) := by
  obtain ⟨t, p, he⟩ := he
  refine ⟨_, ps_expr p hs, fun ρ S io F σ H D s en h => ?_⟩
  exact he ρ S io F σ H _ s en (RS.go en h fun d S1 io1 F1 H1 v e1 n1 s1 r1 h1 => h1 io1 F1 H1 σ Nxt.refl s1 (en.nxt n1))
theorem os_ret (he : OE X W e ma) : OS X W (.Return (some e) pos) (sRet ma) := by
  obtain ⟨t, p, he⟩ := he
  refine ⟨_, ps_ret p, fun ρ S io F σ H D s en h => ?_⟩
  exact he ρ S io F σ H _ s en (RS.go en h fun d S1 io1 F1 H1 v e1 n1 s1 r1 h1 => h1 io1 F1 H1 v Nxt.refl s1 r1)
theorem os_if {as bs : List Stmt} (hc : OT X W c mt) (ha : OSs X W as m) (hb : OSs X W bs m2) : OS X W (.If c as bs pos) (sIf mt m m2) := by
  obtain ⟨t, p, hc⟩ := hc
  obtain ⟨u, q, ha⟩ := ha
  obtain ⟨u2, q2, hb⟩ := hb
  refine ⟨_, ps_if p q q2, fun ρ S io F σ H D s en h => ?_⟩
  refine hc ρ S io F σ H _ s en (RS.go en h fun d S1 io1 F1 H1 v e1 n1 s1 r1 h1 => ?_)
  cases r1
  cases d with
  | true => exact iteT (ha ρ S1 io1 F1 σ H1 D s1 (en.nxt n1) h1)
  | false => exact iteF (hb ρ S1 io1 F1 σ H1 D s1 (en.nxt n1) h1)
theorem RS.nox {K : PySem.W.Frag} {io : Io} {F H : Hp} {A B : Type} {R : Io → Hp → A → B → Prop} {Q1 : B → Hp → Prop} {D : Ends} {ρ : En} {r : Res A} {f : A → Sto → RF} {E : XK} (h : RS K (r.nox.go ρ f) io F H D W)
    (k : ∀ a S1 io1 F1 H1 v, r = .ok a S1 → Nxt io F H io1 F1 H1 → Sta K io1 F1 S1 H1 → R io1 F1 a v → RS K (f a S1) io1 F1 H1 D W → Q1 v H1) : RG K R r io F H Q1 E := by
  cases r with
  | ok a S => exact fun io' F' H' v n s rp => k a S io' F' H' v rfl n s rp (RS.step n h)
  | exc c x S => exact h.elim
  | bad => exact h
theorem os_asg {js : List Nat} {g : MG} (he : OE X W e ma) (hg : OG X (fun _ _ _ _ => False) tg js g) (hs : swapsWithSole [tg] e pos.line X.env = pure false := by rfl) (hw : swappedStores [tg] e X.env = pure none := by rfl)
    (h1 : (assignEach [tg] X.env).map (·.2) = [assign tg X.env] := by rfl) : OS X W (.Assign [tg] e pos) (sAsg ma g) := by
  obtain ⟨t, p, he⟩ := he
  obtain ⟨u, q, hg⟩ := hg
  refine ⟨_, ps_asg p q hs hw h1, fun ρ S io F σ H D s en h => ?_⟩
  refine he ρ S io F σ H _ s en (RS.go en h fun d S1 io1 F1 H1 v e1 n1 s1 r1 h1 => ?_)
  exact hg d v ρ S1 io1 F1 σ H1 _ s1 (en.nxt n1) r1 (RS.nox h1 fun ρ1 S2 io2 F2 H2 σ2 e2 n2 s2 r2 h2 => h2 io2 F2 H2 σ2 Nxt.refl s2 r2.1)
theorem os_set {i : Nat} {x : Str} {pos' : Pos} (hN : X.N.Nodup) (he : OE X W e ma) (hi : X.N[i]? = some x := by rfl) (hx : Loc X.env.scope x := by first | exact Or.inl rfl | exact Or.inr rfl) (hs : swapsWith e (some (.Name x pos')) pos.line X.env = pure false := by rfl)
    (hf : X.fn x = true ∨ X.env.scope.names.lookup x = some .local := by first | exact .inl rfl | exact .inr rfl) : OS X W (.Assign [.Name x pos'] e pos) (sAsg ma (gNm i)) := by
  obtain ⟨t, p, he⟩ := he
  refine ⟨_, ps_set hN hi hx p hs hf, fun ρ S io F σ H D s en h => ?_⟩
  refine he ρ S io F σ H _ s en (RS.go en h fun d S1 io1 F1 H1 v e1 n1 s1 r1 h1 => ?_)
  exact h1 io1 F1 H1 (σ.set i (some v)) Nxt.refl s1 ((en.nxt n1).set r1 i)
theorem os_par {i j : Nat} {x y : Str} {mas : MA} {px py pt : Pos} {kt k2 pt2} (hc : X.calm = true) (hN : X.N.Nodup) (ha : OA X W [a, b] mas) (hi : X.N[i]? = some x := by rfl) (hj : X.N[j]? = some y := by rfl) (hij : i ≠ j := by decide)
    (hx : X.env.scope.names.lookup x = some .local := by rfl) (hy : X.env.scope.names.lookup y = some .local := by rfl)
    (hw : swappedStores [.Tuple [.Name x px, .Name y py] kt pt] (.Tuple [a, b] k2 pt2) X.env = pure (some [x, y]) := by rfl)
    (hs : swapsWithSole [.Tuple [.Name x px, .Name y py] kt pt] (.Tuple [a, b] k2 pt2) pos.line X.env = pure false := by rfl) :
    OS X W (.Assign [.Tuple [.Name x px, .Name y py] kt pt] (.Tuple [a, b] k2 pt2) pos) (sPar i j mas) := by
  obtain ⟨t, p, ha⟩ := ha
  refine ⟨_, ps_par hc hN hi hj hij hx hy p hw hs, fun ρ S io F σ H D s en h => ?_⟩
  refine ha ρ S io F σ H _ s en (RS.go en h fun ds S1 io1 F1 H1 vs e1 n1 s1 r1 h1 => ?_)
  match ds, r1, h1 with
  | [d, d2], ⟨v, w, e1, ra, ⟨v2, w2, e2, rb, e3⟩⟩, h1 =>
    have e3 : w2 = [] := e3
    subst e3; subst e2; subst e1
    exact ⟨v, v2, rfl, h1 io1 F1 H1 _ Nxt.refl s1 (((en.nxt n1).set ra i).set rb j)⟩
  | [], _, h1 => exact h1.elim
  | [_], _, h1 => exact h1.elim
  | _ :: _ :: _ :: _, _, h1 => exact h1.elim
theorem os_for {js : List Nat} {it : MI} {g : MG} {body : List Stmt} (hp : PassesOwn (model X.prog X.w) X.A X.env X.xe) (hc : X.calm = true) (hi : OI X W tg iter it) (hg : OG X (fun _ _ _ _ => False) tg js g) (hb : OSs X W body m)
    (hs : ∀ x, foldedSetIterable iter X.env x = pure x := by intro _; rfl) : OS X W (.For tg iter body [] pos) (sFor it g m) := by
  obtain ⟨t, p, hi⟩ := hi
  obtain ⟨u, q, hg⟩ := hg
  obtain ⟨u2, q2, hb⟩ := hb
  refine ⟨_, ps_for hp hc p q q2 hs, fun ρ S io F σ H D s en h => ?_⟩
  refine hi ρ S io F σ H _ s en (RS.go en h fun xs S1 io1 F1 H1 J e1 n1 s1 ij h1 => ?_)
  refine ⟨fun i k σ' H' => k = xs.length - i ∧ i ≤ xs.length ∧ ∃ ρ' S' io' F', Same F1 F' ∧ Sta X.K io' F' S' H' ∧ Mir.Env X.K io' F' ρ' σ' ∧ RS X.K (forGo g m (xs.drop i) ρ' S') io' F' H' D W,
    ⟨xs.length, by simp, Nat.zero_le _, ρ, S1, io1, F1, Same.refl _, s1, en.nxt n1, h1⟩, ?_⟩
  rintro i k σ' H' ⟨rfl, hle, ρ', S', io', F', hF, s', en', h'⟩
  obtain ⟨go, stop⟩ := ij io' F' S' H' i hF s'
  cases hx : xs[i]? with
  | none =>
    have hd : xs.drop i = [] := List.drop_eq_nil_of_le (List.getElem?_eq_none_iff.mp hx)
    rw [hd] at h'
    exact .inl ⟨stop hx, h' io' F' H' σ' Nxt.refl s' en'⟩
  | some x =>
    have hlt : i < xs.length := (List.getElem?_eq_some_iff.mp hx).1
    have hd : xs.drop i = x :: xs.drop (i + 1) := by
      rw [List.drop_eq_getElem_cons hlt]
      congr 1
      exact (List.getElem?_eq_some_iff.mp hx).2
    rw [hd] at h'
    obtain ⟨g1, g2⟩ := go x hx
    refine .inr ⟨g1, fun σ2 H2 => ∃ ρ2 S2 io2 F2, Same F1 F2 ∧ Sta X.K io2 F2 S2 H2 ∧ Mir.Env X.K io2 F2 ρ2 σ2 ∧ RS X.K (forGo g m (xs.drop (i + 1)) ρ2 S2) io2 F2 H2 D W, fun σ2 H2 hn => ⟨xs.length - (i + 1), by omega, rfl, hlt, hn⟩, fun v H'' hy => ?_⟩
    obtain ⟨F'', n2, s2, rv⟩ := g2 v H'' hy
    have h' : RS X.K (((g (.p x) ρ' S').nox).go ρ' fun ρ1 S1 => match m ρ1 S1 with
      | .ok (.nx ρ2) S2 => forGo g m (xs.drop (i + 1)) ρ2 S2
      | .ok (.ct ρ2) S2 => forGo g m (xs.drop (i + 1)) ρ2 S2
      | .ok (.bk ρ2) S2 => .ok (.nx ρ2) S2
      | .ok (.rt d) S2 => .ok (.rt d) S2
      | .ok (.xc ρ2 c x) S2 => .ok (.xc ρ2 c x) S2
      | .bad => .bad) io' F' H' D W := h'
    refine hg (.p x) v ρ' S' io' F'' σ' H'' _ s2 (en'.nxt n2) rv (RS.nox (RS.step n2 h') fun ρ3 S3 io3 F3 H3 σ3 e3 n3 s3 r3 h3 => ?_)
    refine hb ρ3 S3 io3 F3 σ3 H3 _ s3 r3.1 ?_
    have hF3 : Same F1 F3 := (hF.trans n2.fr).trans n3.fr
    cases r : m ρ3 S3 with
    | bad => rw [r] at h3; exact h3
    | ok f S4 =>
      rw [r] at h3
      cases f with
      | nx ρ4 => exact fun io4 F4 H4 σ4 n4 s4 en4 => ⟨ρ4, S4, io4, F4, hF3.trans n4.fr, s4, en4, RS.step n4 h3⟩
      | ct ρ4 => exact fun io4 F4 H4 σ4 n4 s4 en4 => ⟨ρ4, S4, io4, F4, hF3.trans n4.fr, s4, en4, RS.step n4 h3⟩
      | bk ρ4 => exact h3
      | rt d => exact h3
      | xc ρ4 c x => exact h3
theorem os_while {body : List Stmt} (n : Nat) (hp : PassesOwn (model X.prog X.w) X.A X.env X.xe) (hc : OT X W c mt) (hb : OSs X W body m) : OS X W (.While c body [] pos) (sWhile n mt m) := by
  obtain ⟨t, p, hc⟩ := hc
  obtain ⟨u, q, hb⟩ := hb
  refine ⟨_, ps_while hp p q, fun ρ S io F σ H D s en h => ?_⟩
  refine ⟨fun k σ' H' => ∃ ρ' S' io' F', Sta X.K io' F' S' H' ∧ Mir.Env X.K io' F' ρ' σ' ∧ RS X.K (whGo mt m k ρ' S') io' F' H' D W, ⟨n, ρ, S, io, F, s, en, h⟩, ?_⟩
  rintro k σ' H' ⟨ρ', S', io', F', s', en', h'⟩
  cases k with
  | zero => exact h'.elim
  | succ k =>
    refine hc ρ' S' io' F' σ' H' _ s' en' (RS.go en' h' fun d S1 io1 F1 H1 v e1 n1 s1 r1 h1 => ?_)
    cases r1
    cases d with
    | false => exact iteF (h1 io1 F1 H1 σ' Nxt.refl s1 (en'.nxt n1))
    | true =>
      refine iteT ⟨fun σ2 H2 => ∃ ρ2 S2 io2 F2, Sta X.K io2 F2 S2 H2 ∧ Mir.Env X.K io2 F2 ρ2 σ2 ∧ RS X.K (whGo mt m k ρ2 S2) io2 F2 H2 D W, fun σ2 H2 hn => ⟨k, Nat.lt_succ_self k, hn⟩, ?_⟩
      refine hb ρ' S1 io1 F1 σ' H1 _ s1 (en'.nxt n1) ?_
      dsimp only at h1
      cases r : m ρ' S1 with
      | bad => rw [r] at h1; exact h1
      | ok f S4 =>
        rw [r] at h1
        cases f with
        | nx ρ4 => exact fun io4 F4 H4 σ4 n4 s4 en4 => ⟨ρ4, S4, io4, F4, s4, en4, RS.step n4 h1⟩
        | ct ρ4 => exact fun io4 F4 H4 σ4 n4 s4 en4 => ⟨ρ4, S4, io4, F4, s4, en4, RS.step n4 h1⟩
        | bk ρ4 => exact h1
        | rt d => exact h1
        | xc ρ4 c x => exact h1
end
def tsYes : MT := fun _ S => .ok true S
def lcGo (g : MG) (t : MT) (e : ME) (ρ : En) : List P → Sto → Res (List P)
  | [], S => .ok [] S
  | x :: xs, S => (g (.p x) ρ S).nox.bind fun ρ1 S1 => (t ρ1 S1).nox.bind fun b S2 => match b with
    | true => (e ρ1 S2).nox.bind fun d S3 => (frz d S3).bind fun y S4 => (lcGo g t e ρ xs S4).bind fun ys S5 => .ok (y :: ys) S5
    | false => lcGo g t e ρ xs S2
def eLc (it : MI) (vs : List Nat) (g : MG) (t : MT) (e : ME) : ME := fun ρ S => (it ρ S).bind fun xs S1 => if xs.length ≤ 100000 then (lcGo g t e (wipeE ρ vs) xs S1).bind fun ys S2 => .ok (.p (.lst ys)) S2 else .bad
abbrev W0 : WX := fun _ _ _ _ => False
theorem pts_of_nil {X : Cx} : PTs X [] (tT X.K W0 tsYes) := ⟨fun pins s σ H Q I ⟨ρ, S, io, F, st, en, q⟩ => pts_nil.run pins s σ H Q I (RG.val (R := RepB) (d := true) (v := true) st rfl q)⟩
theorem pts_of_one {X : Cx} {c : Expr} {m : MT} (h : OT X W0 c m) : PTs X [c] (tT X.K W0 m) := pts_one h.pt
def OTs (X : Cx) (es : List Expr) (m : MT) : Prop := PTs X es (tT X.K W0 m)
theorem ots_nil {X : Cx} : OTs X [] tsYes := pts_of_nil
theorem ots_one {X : Cx} {c : Expr} {m : MT} (h : OT X W0 c m) : OTs X [c] m := pts_of_one h
section
variable {K : PySem.W.Frag} {Q : VK} {E : XK}
theorem lc_turns {wi : TI} {xs : List P} {J : It} {js vs : List Nat} {g : MG} {t : MT} {e : ME} {ρ : En} {σ : St} {S1 : Sto} {io1 : Io} {F1 H1 : Hp} {fin : List P → Sto → Res Vl} (s1 : Sta K io1 F1 S1 H1) (en : Mir.Env K io1 F1 ρ σ) (hj : ∀ j ∈ js, j ∈ vs)
    (ij : IterOk K F1 xs J) (hz : xs.length ≤ 100000) (h : RG K (RepA K) ((lcGo g t e (wipeE ρ vs) xs S1).bind fin) io1 F1 H1 Q E)
    (D : Addr) (hD : H1 D = none)
    (done : ∀ ys S2 io2 F2 H2 acc, Nxt io1 F1 H1 io2 F2 H2 → Sta K io2 F2 S2 H2 → (∀ k : Nat, io2[k]? ≠ some (some D)) → F2 D = none → H2 D = some (.lst acc) → RepL K F2 ys acc → RG K (RepA K) (fin ys S2) io1 F1 H1 Q E → Q (.ref D) H2) :
    ∃ W : Nat → Nat → Hp → Prop, (∃ m, W 0 m (upd H1 D (.lst []))) ∧ ∀ i m H, W i m H →
      (J.stop i H ∧ Q (.ref D) H) ∨ (J.go i H ∧ ∃ Nx : Hp → Prop, (∀ H', Nx H' → ∃ m', m' < m ∧ W (i + 1) m' H') ∧ ∀ x H', J.yld i H x H' → tG K W0 js g x (L2.wipe σ vs) H' fun σ2 H2 => L2.wipe σ2 vs = L2.wipe σ vs ∧ tT K W0 t σ2 H2 fun b H3 =>
        if b = true then tE K W0 e σ2 H3 fun y H4 => ∃ acc, H4 D = some (.lst acc) ∧ acc.length < sizeLine ∧ Nx (upd H4 D (.lst (acc ++ [y]))) else Nx H3) := by
  let Inv' : Nat → Hp → Prop := fun i H => ∃ S io F acc ys, Nxt io1 F1 H1 io F H ∧ Sta K io F S H ∧ (∀ k : Nat, io[k]? ≠ some (some D)) ∧ F D = none ∧ H D = some (.lst acc) ∧ RepL K F ys acc ∧ ys.length ≤ i ∧ RG K (RepA K) ((lcGo g t e (wipeE ρ vs) (xs.drop i) S).bind fun zs S2 => fin (ys ++ zs) S2) io1 F1 H1 Q E
  refine ⟨fun i m H => m = xs.length - i ∧ i ≤ xs.length ∧ Inv' i H, ⟨xs.length, by simp, Nat.zero_le _, S1, io1, F1, [], [], ?_, s1.side (s1.notIn hD) (Same.free s1.sub hD), s1.notIn hD, Same.free s1.sub hD, upd_same, .nil, Nat.le_refl _, ?_⟩, ?_⟩
  · refine ⟨fun _ _ z => z, fun _ _ z => z, fun a o z _ => ?_, fun _ _ z => .inl z, fun a z => ?_, fun _ z => .inl z⟩
    · rw [upd_ne (ne_of_none z hD)]; exact z
    · by_cases q : a = D
      · subst q; exact hD
      · rw [upd_ne q] at z; exact z
  · exact h
  rintro i m H ⟨rfl, hle, S, io, F, acc, ys, nx, st, nD, fD, hH, ra, hl, hh⟩
  obtain ⟨go, stop⟩ := ij io F S H i nx.fr st
  cases hx : xs[i]? with
  | none =>
    have hd : xs.drop i = [] := List.drop_eq_nil_of_le (List.getElem?_eq_none_iff.mp hx)
    rw [hd] at hh
    have hh : RG K (RepA K) (fin (ys ++ []) S) io1 F1 H1 Q E := hh
    rw [List.append_nil] at hh
    exact .inl ⟨stop hx, done ys S io F H acc nx st nD fD hH ra hh⟩
  | some x =>
    have hlt : i < xs.length := (List.getElem?_eq_some_iff.mp hx).1
    have hd : xs.drop i = x :: xs.drop (i + 1) := by
      rw [List.drop_eq_getElem_cons hlt]
      congr 1
      exact (List.getElem?_eq_some_iff.mp hx).2
    rw [hd] at hh
    obtain ⟨g1, g2⟩ := go x hx
    refine .inr ⟨g1, Inv' (i + 1), fun H' q => ⟨xs.length - (i + 1), by omega, rfl, hlt, q⟩, fun v H'' hy => ?_⟩
    obtain ⟨F'', n2, s2, rv⟩ := g2 v H'' hy
    have keepD : ∀ {io' : Io} {F' : Hp} {H' : Hp}, Nxt io F H io' F' H' → (∀ k : Nat, io'[k]? ≠ some (some D)) ∧ F' D = none ∧ H' D = some (.lst acc) := fun {io' F' H'} n => by
      refine ⟨fun k e => ?_, ?_, n.out D _ hH nD⟩
      · rcases n.new k D e with z | z
        · exact nD k z
        · rw [hH] at z; cases z
      · cases q : F' D with
        | none => rfl
        | some o =>
          rcases n.nf D (by rw [q]; exact fun z => nomatch z) with z | z | ⟨k, z⟩
          · exact absurd fD z
          · rw [hH] at z; cases z
          · exact absurd z (nD k)
    have hh : RG K (RepA K) (((g (.p x) (wipeE ρ vs) S).nox.bind fun ρ1 S1 => (t ρ1 S1).nox.bind fun b S2 => match b with
      | true => (e ρ1 S2).nox.bind fun d S3 => (frz d S3).bind fun y S4 => (lcGo g t e (wipeE ρ vs) (xs.drop (i + 1)) S4).bind fun ys S5 => .ok (y :: ys) S5
      | false => lcGo g t e (wipeE ρ vs) (xs.drop (i + 1)) S2).bind fun zs S2 => fin (ys ++ zs) S2) io1 F1 H1 Q E := hh
    cases q1 : g (.p x) (wipeE ρ vs) S with
    | bad => rw [q1] at hh; exact hh.elim
    | exc c x S => rw [q1] at hh; exact hh.elim
    | ok ρ1 Sa =>
      rw [q1] at hh
      refine ⟨.p x, wipeE ρ vs, S, io, F'', s2, ((en.nxt nx).nxt n2).wipe vs, rv, ?_⟩
      rw [q1]
      intro io3 F3 H3 σ3 n3 s3 r3
      refine ⟨?_, ?_⟩
      · rw [wipe_agree r3.2 hj]
        have key : ∀ (τ : St) (vs : List Nat), L2.wipe (L2.wipe τ vs) vs = L2.wipe τ vs := by
          intro τ vs
          apply List.ext_getElem?
          intro j
          have k2 : ∀ (τ : St) (vs : List Nat) (j : Nat), (L2.wipe τ vs)[j]? = if j ∈ vs then (τ[j]?).map (fun _ => none) else τ[j]? := wipe_get
          rw [k2, k2]
          by_cases hj : j ∈ vs
          · rw [if_pos hj, if_pos hj]
            cases τ[j]? <;> rfl
          · rw [if_neg hj, if_neg hj]
        exact key σ vs
      have hh : RG K (RepA K) (((t ρ1 Sa).nox.bind fun b S2 => match b with
        | true => (e ρ1 S2).nox.bind fun d S3 => (frz d S3).bind fun y S4 => (lcGo g t e (wipeE ρ vs) (xs.drop (i + 1)) S4).bind fun ys S5 => .ok (y :: ys) S5
        | false => lcGo g t e (wipeE ρ vs) (xs.drop (i + 1)) S2).bind fun zs S2 => fin (ys ++ zs) S2) io1 F1 H1 Q E := hh
      cases q2 : t ρ1 Sa with
      | bad => rw [q2] at hh; exact hh.elim
      | exc c x S => rw [q2] at hh; exact hh.elim
      | ok b Sb =>
        rw [q2] at hh
        refine ⟨ρ1, Sa, io3, F3, s3, r3.1, ?_⟩
        rw [q2]
        intro io4 F4 H4 b' n4 s4 r4
        cases r4
        cases b with
        | false =>
          refine iteF ?_
          obtain ⟨d1, d2, d3⟩ := keepD ((n2.trans n3).trans n4)
          exact ⟨Sb, io4, F4, acc, ys, nx.trans ((n2.trans n3).trans n4), s4, d1, d2, d3, RepL.mono ((n2.trans n3).trans n4).fr ra, Nat.le_succ_of_le hl, hh⟩
        | true =>
          refine iteT ?_
          have hh : RG K (RepA K) (((e ρ1 Sb).nox.bind fun d S3 => (frz d S3).bind fun y S4 => (lcGo g t e (wipeE ρ vs) (xs.drop (i + 1)) S4).bind fun ys S5 => .ok (y :: ys) S5).bind fun zs S2 => fin (ys ++ zs) S2) io1 F1 H1 Q E := hh
          cases q3 : e ρ1 Sb with
          | bad => rw [q3] at hh; exact hh.elim
          | exc c x S => rw [q3] at hh; exact hh.elim
          | ok d Sc =>
            rw [q3] at hh
            refine ⟨ρ1, Sb, io4, F4, s4, r3.1.nxt n4, ?_⟩
            rw [q3]
            intro io5 F5 H5 w n5 s5 r5
            have hh : RG K (RepA K) (((frz d Sc).bind fun y S4 => (lcGo g t e (wipeE ρ vs) (xs.drop (i + 1)) S4).bind fun ys S5 => .ok (y :: ys) S5).bind fun zs S2 => fin (ys ++ zs) S2) io1 F1 H1 Q E := hh
            have n15 := ((n2.trans n3).trans n4).trans n5
            cases q4 : frz d Sc with
            | bad => rw [q4] at hh; exact hh.elim
            | exc c x S =>
              exact absurd q4 (frz_nox _ _ _ _ _)
            | ok y Sd =>
              rw [q4] at hh
              obtain ⟨y', Sd', F6, n6, s6, rp, hz6, _⟩ := s5.frz (C := Vl) (D := V) (R' := RepA K) (g := fun _ S => .ok (.p .non) S) (Q := fun _ _ => True) (E := fun _ _ _ => True) r5 (by rw [q4]; exact fun _ _ _ _ _ _ _ => trivial)
              rw [q4] at hz6; cases hz6
              obtain ⟨d1, d2, d3⟩ := keepD (n15.trans n6)
              have hlen : acc.length ≤ i := by rw [ra.length]; exact hl
              refine ⟨acc, d3, sz5l (by omega), ?_⟩
              have nx' := nx.trans (n15.trans n6)
              refine ⟨Sd, io5, F6, acc ++ [w], ys ++ [y], ?_, s6.side d1 d2, d1, d2, upd_same, (RepL.mono (n15.trans n6).fr ra).append (.cons rp .nil), by rw [List.length_append]; exact Nat.succ_le_succ hl, ?_⟩
              · refine ⟨nx'.han, nx'.fr, fun a o z zn => ?_, nx'.new, fun a z => ?_, nx'.nf⟩
                · rw [upd_ne (ne_of_none z hD)]; exact nx'.out a o z zn
                · by_cases q : a = D
                  · subst q; exact hD
                  · rw [upd_ne q] at z; exact nx'.stay a z
              · have hh : RG K (RepA K) (((lcGo g t e (wipeE ρ vs) (xs.drop (i + 1)) Sd).bind fun ys S5 => Res.ok (y :: ys) S5).bind fun zs S2 => fin (ys ++ zs) S2) io1 F1 H1 Q E := hh
                have q5 : (((lcGo g t e (wipeE ρ vs) (xs.drop (i + 1)) Sd).bind fun ys S5 => Res.ok (y :: ys) S5).bind fun zs S2 => fin (ys ++ zs) S2) = (lcGo g t e (wipeE ρ vs) (xs.drop (i + 1)) Sd).bind fun zs S2 => fin (ys ++ [y] ++ zs) S2 := by
                  cases lcGo g t e (wipeE ρ vs) (xs.drop (i + 1)) Sd with
                  | bad => rfl
                  | exc c x S => rfl
                  | ok zs S =>
                    show fin (ys ++ (y :: zs)) S = fin (ys ++ [y] ++ zs) S
                    rw [List.append_assoc]
                    rfl
                rw [q5] at hh
                exact hh
end
section
variable {X : Cx} {W : WX} {elt tg iter : Expr} {ifs : List Expr} {scope : Scope} {own : List (Str × Nat)} {pos : Pos} {it : MI} {js : List Nat} {g : MG} {t : MT} {e : ME}
theorem oe_lc (hc : X.calm = true) (hN : X.N.Nodup) (hi : OI X W tg iter it) (ok : BlkOk X.N X.env.scope scope own) (hj : ∀ j ∈ js, j ∈ own.map (·.2))
    (hg : ∀ (s : Shared) (H : Hp) (C : Addr) (cl : List (Str × Addr)) (fp : List Addr), OG (X.blk s H scope (compEnvC scope cl C X.env) fp) W0 tg js g) (ht : ∀ (s : Shared) (H : Hp) (C : Addr) (cl : List (Str × Addr)) (fp : List Addr), OTs (X.blk s H scope (compEnvC scope cl C X.env) fp) ifs t)
    (he : ∀ (s : Shared) (H : Hp) (C : Addr) (cl : List (Str × Addr)) (fp : List Addr), OE (X.blk s H scope (compEnvC scope cl C X.env) fp) W0 elt e) (hs : ∀ x, foldedSetIterable iter X.env x = pure x := by intro _; rfl) :
    OE X W (.ListComp elt [⟨tg, iter, ifs, 0⟩] scope pos) (eLc it (own.map (·.2)) g t e) := by
  obtain ⟨wi, p, hi⟩ := hi
  refine ⟨_, pe_lc (g := tG X.K W0 js g) (tt := tT X.K W0 t) (te := tE X.K W0 e) hc hN p ok (fun s H C cl fp => (hg s H C cl fp).pg) (fun s H C cl fp => ht s H C cl fp) (fun s H C cl fp => (he s H C cl fp).pe) hs, fun ρ S io F σ H Q st en h => ?_⟩
  refine hi ρ S io F σ H _ st en (RG.bind h fun xs S1 io1 F1 H1 J e1 n1 s1 ij h1 => ?_)
  intro D hD
  by_cases hz : xs.length ≤ 100000
  · rw [if_pos hz] at h1
    refine lc_turns (wi := wi) s1 (en.nxt n1) hj ij hz h1 D hD fun ys S2 io2 F2 H2 acc nx s2 nD fD hH ra h2 => ?_
    refine h2 io2 (upd F2 D (.lst acc)) H2 (.ref D) ?_ ?_ ⟨D, acc, rfl, upd_same, RepL.mono (upd_same_of fD) ra⟩
    · refine ⟨nx.han, nx.fr.trans (upd_same_of fD), nx.out, nx.new, nx.stay, fun a z => ?_⟩
      by_cases q : a = D
      · subst q; exact .inr (.inl hD)
      · rw [upd_ne q] at z; exact nx.nf a z
    · refine ⟨s2.len, s2.inj, fun a u z => ?_, s2.trk, fun k c z => ?_⟩
      · by_cases q : a = D
        · subst q; rw [upd_same] at z; cases z; exact hH
        · rw [upd_ne q] at z; exact s2.sub _ _ z
      · refine (s2.cel k c z).mono (fun _ _ z => z) (upd_same_of fD) (fun b hb hn => ?_) fun _ _ _ hu => hu
        rw [upd_ne (fun q => by subst q; exact nD k hb)]
        exact hn
  · rw [if_neg hz] at h1
    exact h1.elim
theorem os_setLc {i : Nat} {y : Str} {py spos : Pos} (hc : X.calm = true) (hN : X.N.Nodup) (hi : OI X W tg iter it) (ok : BlkOk X.N X.env.scope scope own) (hj : ∀ j ∈ js, j ∈ own.map (·.2))
    (hg : ∀ (s : Shared) (H : Hp) (C : Addr) (cl : List (Str × Addr)) (fp : List Addr), OG (X.blk s H scope (compEnvC scope cl C X.env) fp) W0 tg js g) (ht : ∀ (s : Shared) (H : Hp) (C : Addr) (cl : List (Str × Addr)) (fp : List Addr), OTs (X.blk s H scope (compEnvC scope cl C X.env) fp) ifs t)
    (he : ∀ (s : Shared) (H : Hp) (C : Addr) (cl : List (Str × Addr)) (fp : List Addr), OE (X.blk s H scope (compEnvC scope cl C X.env) fp) W0 elt e) (hy : X.N[i]? = some y := by rfl) (hyl : X.env.scope.names.lookup y = some .local := by rfl)
    (hsw : swapsWith (.ListComp elt [⟨tg, iter, ifs, 0⟩] scope pos) (some (.Name y py)) spos.line X.env = pure true := by exact sw_true rfl rfl rfl (by decide +kernel)) (hs : ∀ x, foldedSetIterable iter X.env x = pure x := by intro _; rfl) :
    OS X W (.Assign [.Name y py] (.ListComp elt [⟨tg, iter, ifs, 0⟩] scope pos) spos) (sAsg (eLc it (own.map (·.2)) g t e) (gNm i)) := by
  have := oe_lc (pos := pos) hc hN hi ok hj hg ht he hs
  obtain ⟨wi, p, hi⟩ := hi
  refine ⟨_, ps_setLc (g := tG X.K W0 js g) (tt := tT X.K W0 t) (te := tE X.K W0 e) hc hN hy hyl hsw p ok (fun s H C cl fp => (hg s H C cl fp).pg) (fun s H C cl fp => ht s H C cl fp) (fun s H C cl fp => (he s H C cl fp).pe) hs, fun ρ S io F σ H D' st en h => ?_⟩
  have h := RS.go (R := RepA X.K) (Q1 := fun v H1 => gName i v σ H1 D'.nx) en h fun d S1 io1 F1 H1 v e1 n1 s1 r1 h1 => h1 io1 F1 H1 (σ.set i (some v)) Nxt.refl s1 ((en.nxt n1).set r1 i)
  show tLc wi _ _ _ _ σ H (fun v H1 => gName i v σ H1 D'.nx)
  refine hi ρ S io F σ H _ st en (RG.bind h fun xs S1 io1 F1 H1 J e1 n1 s1 ij h1 => ?_)
  intro D hD
  by_cases hz : xs.length ≤ 100000
  · rw [if_pos hz] at h1
    refine lc_turns (wi := wi) s1 (en.nxt n1) hj ij hz h1 D hD fun ys S2 io2 F2 H2 acc nx s2 nD fD hH ra h2 => ?_
    refine h2 io2 (upd F2 D (.lst acc)) H2 (.ref D) ?_ ?_ ⟨D, acc, rfl, upd_same, RepL.mono (upd_same_of fD) ra⟩
    · refine ⟨nx.han, nx.fr.trans (upd_same_of fD), nx.out, nx.new, nx.stay, fun a z => ?_⟩
      by_cases q : a = D
      · subst q; exact .inr (.inl hD)
      · rw [upd_ne q] at z; exact nx.nf a z
    · refine ⟨s2.len, s2.inj, fun a u z => ?_, s2.trk, fun k c z => ?_⟩
      · by_cases q : a = D
        · subst q; rw [upd_same] at z; cases z; exact hH
        · rw [upd_ne q] at z; exact s2.sub _ _ z
      · refine (s2.cel k c z).mono (fun _ _ z => z) (upd_same_of fD) (fun b hb hn => ?_) fun _ _ _ hu => hu
        rw [upd_ne (fun q => by subst q; exact nD k hb)]
        exact hn
  · rw [if_neg hz] at h1
    exact h1.elim
end
end Mir

namespace Mir
open PySem L2
def isL (S : Sto) : Vl → Bool
  | .p (.lst _) => true
  | .c k => (match S[k]? with
    | some (.lst _) => true
    | some (.lsv _) => true
    | _ => false)
  | _ => false
section
variable {K : PySem.W.Frag} {io : Io} {F : Hp} {S : Sto} {H : Hp}
theorem Sta.isL (st : Sta K io F S H) {d : Vl} {v : V} (r : RepV K io F d v) (h : Mir.isL S d = true) : tyV K "list" v H := by
  cases d with
  | p x =>
    cases x with
    | lst xs =>
      obtain ⟨a, vs, rfl, h1, _⟩ := r
      exact .inl ⟨rfl, vs, SqL.of (st.sub _ _ h1)⟩
    | _ => cases h
  | c k =>
    obtain ⟨a, ha, rfl⟩ := r
    unfold Mir.isL at h
    dsimp only at h
    cases hk : S[k]? with
    | none => rw [hk] at h; cases h
    | some c =>
      rw [hk] at h
      cases c with
      | lst xs =>
        obtain ⟨b, vs, hb, _, hH, _⟩ := st.cel k _ hk
        rw [ha] at hb; cases hb
        exact .inl ⟨rfl, vs, SqL.of hH⟩
      | lsv xs =>
        obtain ⟨b, vs, hb, _, hH, _⟩ := st.cel k _ hk
        rw [ha] at hb; cases hb
        exact .inl ⟨rfl, vs, SqL.of hH⟩
      | _ => cases h
theorem Sta.wlst (st : Sta K io F S H) {k : Nat} {a : Addr} {c : Cell} {xs : List P} {vs : List V} (hk : S[k]? = some c) (hc : ∀ x, c ≠ .fz x) (hc2 : c ≠ .res) (hc3 : ∀ ys, c ≠ .tup ys) (ha : io[k]? = some (some a)) (r : RepL K F xs vs) (hc4 : ∀ ys, c ≠ .dvs ys ∧ c ≠ .tpz ys := by exact fun _ => ⟨(fun z => nomatch z), (fun z => nomatch z)⟩) :
    Sta K io F (S.set k (.lst xs)) (upd H a (.lst vs)) ∧ Nxt io F H io F (upd H a (.lst vs)) := by
  obtain ⟨b, o, hb, hF, hH⟩ := (st.cel k c hk).there hc hc2 hc3 hc4
  rw [ha] at hb; cases hb
  exact st.write ha hF ⟨a, vs, ha, hF, upd_same, r⟩
theorem Sta.wlsv (st : Sta K io F S H) {k : Nat} {a : Addr} {c : Cell} {xs : List Vl} {vs : List V} (hk : S[k]? = some c) (hc : ∀ x, c ≠ .fz x) (hc2 : c ≠ .res) (hc3 : ∀ ys, c ≠ .tup ys) (ha : io[k]? = some (some a)) (r : RepVs K io F xs vs) (hj : ∀ j, Vl.c j ∈ xs → j < k) (hc4 : ∀ ys, c ≠ .dvs ys ∧ c ≠ .tpz ys := by exact fun _ => ⟨(fun z => nomatch z), (fun z => nomatch z)⟩) :
    Sta K io F (S.set k (.lsv xs)) (upd H a (.lst vs)) ∧ Nxt io F H io F (upd H a (.lst vs)) := by
  obtain ⟨b, o, hb, hF, hH⟩ := (st.cel k c hk).there hc hc2 hc3 hc4
  rw [ha] at hb; cases hb
  exact st.write ha hF ⟨a, vs, ha, hF, upd_same, r, hj⟩
theorem RepVs.append : ∀ {xs ys : List Vl} {vs ws : List V}, RepVs K io F xs vs → RepVs K io F ys ws → RepVs K io F (xs ++ ys) (vs ++ ws)
  | [], _, _, _, h, t => by
    have h' : _ = _ := h
    subst h'
    exact t
  | x :: xs, ys, vs, ws, h, t => by
    obtain ⟨v, r, e1, h1, h2⟩ := h
    subst e1
    exact ⟨v, r ++ ws, rfl, h1, RepVs.append h2 t⟩
theorem RepVs.set : ∀ {xs : List Vl} {vs : List V} {x : Vl} {v : V} (i : Nat), RepVs K io F xs vs → RepV K io F x v → RepVs K io F (xs.set i x) (vs.set i v)
  | [], _, _, _, _, h, _ => by
    have h' : _ = _ := h
    subst h'
    exact rfl
  | y :: xs, vs, x, v, 0, h, hx => by
    obtain ⟨u, r, e1, h1, h2⟩ := h
    subst e1
    exact ⟨v, r, rfl, hx, h2⟩
  | y :: xs, vs, x, v, i + 1, h, hx => by
    obtain ⟨u, r, e1, h1, h2⟩ := h
    subst e1
    exact ⟨u, r.set i v, rfl, h1, RepVs.set i h2 hx⟩
theorem RepVs.one {x : Vl} {vs : List V} (h : RepVs K io F [x] vs) : ∃ v, vs = [v] ∧ RepV K io F x v := by
  obtain ⟨v, r, e, h1, h2⟩ := h
  have h2 : r = [] := h2
  subst h2
  exact ⟨v, e, h1⟩
end
abbrev FM := Vl → List Vl → Sto → Res Vl
def MutOk (K : PySem.W.Frag) (r : V → List V → Hp → VK → Prop) (f : FM) : Prop := ∀ (io : Io) (F : Hp) (S : Sto) (H : Hp) (d : Vl) (v : V) (ds : List Vl) (vs : List V) (Q : VK) (E : XK), Sta K io F S H → RepV K io F d v → RepVs K io F ds vs →
  RG K (RepA K) (f d ds S) io F H Q E → r v vs H Q
def eMut (g : Sto → Vl → Bool) (f : FM) (o : ME) (a : MA) : ME := fun ρ S => (o ρ S).bind fun d S1 => if g S1 d then (a ρ S1).bind fun ds S2 => f d ds S2 else .bad
def GuardOk (K : PySem.W.Frag) (T : String) (g : Sto → Vl → Bool) : Prop := ∀ (io : Io) (F : Hp) (S : Sto) (H : Hp) (d : Vl) (v : V), Sta K io F S H → RepV K io F d v → g S d = true → tyV K T v H
theorem guardL {K : PySem.W.Frag} : GuardOk K "list" isL := fun io F S H d v st r h => st.isL r h
section
variable {X : Cx} {W : WX} {a b c e o : Expr} {ma mb mc mo : ME} {pos apos : Pos} {es : List Expr} {mas : MA}
theorem oe_mut {T id : String} {name : Str} {r : V → List V → Hp → VK → Prop} {g : Sto → Vl → Bool} {f : FM} (pa : PlainAttrs T) (slot : Slot T name id) (hty : typeOf (.builtin id) = pure (.type "method_descriptor")) (hm : MtR X id r) (hg : GuardOk X.K T g) (hf : MutOk X.K r f)
    (ho : OE X W o mo) (ha : OA X W (e :: es) mas)
    (hbase : attributeBase o name X.env (eval o X.env) = eval o X.env := by rfl)
    (hfew : ((backTo pos (starEach (e :: es) X.env)).all (fun x => !x.1) && (backToKw pos (keywordEach [] X.env)).all (fun x => x.1.isSome)
      && decide ((e :: es).length + ([] : List Keyword).length + (if ([] : List Keyword).isEmpty then 0 else 1) < 30)) = true := by rfl)
    (hline : (apos.endLine == pos.line) = true := by rfl) (hs : starEach (e :: es) X.env = (false, eval e X.env) :: starEach es X.env := by rfl) (hplain : (backTo pos (starEach es X.env)).any (·.1) = false := by rfl) :
    OE X W (.Call (.Attribute o name apos) (e :: es) [] pos) (eMut g f mo mas) := by
  obtain ⟨u, p, ho⟩ := ho
  obtain ⟨t, q, ha⟩ := ha
  refine ⟨_, pe_bm pa slot hty hm p q hbase hfew hline hs hplain, fun ρ S io F σ H Q st en h => ?_⟩
  refine ho ρ S io F σ H _ st en (RG.bind h fun d S1 io1 F1 H1 v e1 n1 s1 r1 h1 => ?_)
  by_cases q2 : g S1 d = true
  · rw [if_pos q2] at h1
    refine ⟨hg _ _ _ _ _ _ s1 r1 q2, ?_⟩
    refine ha ρ S1 io1 F1 σ H1 _ s1 (en.nxt n1) (RG.bind h1 fun d2 S2 io2 F2 H2 v2 e2 n2 s2 r2 h2 => ?_)
    exact hf io2 F2 S2 H2 d v d2 v2 Q _ s2 (r1.mono n2.han n2.fr) r2 h2
  · rw [if_neg q2] at h1
    exact h1.elim
def fApp : FM := fun d ds S => match d, ds with
  | .c k, [y] => (match S[k]? with
    | some (.lst _) => (frz y S).bind fun z S1 => (match S1[k]? with
      | some (.lst xs) => if xs.length < 100000 then .ok (.p .non) (S1.set k (.lst (xs ++ [z]))) else .bad
      | _ => .bad)
    | some (.lsv xs) => if xs.length < 100000 then (match y with
      | .p _ => .ok (.p .non) (S.set k (.lsv (xs ++ [y])))
      | .c j => if j < k then .ok (.p .non) (S.set k (.lsv (xs ++ [y]))) else .bad) else .bad
    | _ => .bad)
  | _, _ => .bad
theorem ok_app {K : PySem.W.Frag} : MutOk K rAppend fApp := by
  intro io F S H d v ds vs Q E st r1 r2 h
  match d, ds, r1, r2, h with
  | .p x, ds, _, _, h => exact h.elim
  | .c k, [], _, _, h => exact h.elim
  | .c k, _ :: _ :: _, _, _, h => exact h.elim
  | .c k, [y], r1, r2, h =>
    obtain ⟨a, ha, rfl⟩ := r1
    obtain ⟨w, rfl, rw'⟩ := r2.one
    unfold fApp at h
    dsimp only at h
    cases hk : S[k]? with
    | none => rw [hk] at h; exact h.elim
    | some c =>
      rw [hk] at h
      cases c with
      | lst xs0 =>
        dsimp only at h
        obtain ⟨z, S1, F1, n1, s1, rp, hz, h1⟩ := st.frz rw' h
        cases hk1 : S1[k]? with
        | none => rw [hk1] at h1; exact h1.elim
        | some c1 =>
          rw [hk1] at h1
          cases c1 with
          | lst xs =>
            dsimp only at h1
            by_cases q : xs.length < 100000
            · rw [if_pos q] at h1
              obtain ⟨b, us, hb, hF, hH, hr⟩ := s1.cel k _ hk1
              rw [ha] at hb; cases hb
              refine ⟨a, us, w, rfl, rfl, hH, by rw [hr.length]; exact sz5l q, ?_⟩
              obtain ⟨s2, n2⟩ := s1.wlst hk1 (fun _ z => nomatch z) (fun z => nomatch z) (fun _ z => nomatch z) ha (hr.append (.cons rp .nil))
              exact h1 io F1 _ .non n2 s2 rfl
            · rw [if_neg q] at h1; exact h1.elim
          | _ => exact h1.elim
      | lsv xs =>
        dsimp only at h
        by_cases q : xs.length < 100000
        · rw [if_pos q] at h
          obtain ⟨b, us, hb, hF, hH, hr, hlt⟩ := st.cel k _ hk
          rw [ha] at hb; cases hb
          refine ⟨a, us, w, rfl, rfl, hH, by rw [hr.length]; exact sz5l q, ?_⟩
          have key : ∀ (hj : ∀ j, y = .c j → j < k), RG K (RepA K) (.ok (.p .non) (S.set k (.lsv (xs ++ [y])))) io F H Q E → Q .non (upd H a (.lst (us ++ [w]))) := fun hj h => by
            obtain ⟨s2, n2⟩ := st.wlsv hk (fun _ z => nomatch z) (fun z => nomatch z) (fun _ z => nomatch z) ha (hr.append (ys := [y]) (ws := [w]) ⟨w, [], rfl, rw', rfl⟩) (fun j hm => by
              rcases List.mem_append.mp hm with z | z
              · exact hlt j z
              · exact hj j (List.mem_singleton.mp z).symm)
            exact h io F _ .non n2 s2 rfl
          cases y with
          | p x => exact key (fun j z => nomatch z) h
          | c j =>
            dsimp only at h
            by_cases q2 : j < k
            · rw [if_pos q2] at h
              exact key (fun i z => by cases z; exact q2) h
            · rw [if_neg q2] at h; exact h.elim
        · rw [if_neg q] at h; exact h.elim
      | _ => exact h.elim
theorem oe_append (ho : OE X W o mo) (ha : OE X W a ma) (hbase : attributeBase o "append" X.env (eval o X.env) = eval o X.env := by rfl)
    (hfew : ((backTo pos (starEach [a] X.env)).all (fun x => !x.1) && (backToKw pos (keywordEach [] X.env)).all (fun x => x.1.isSome)
      && decide (([a] : List Expr).length + ([] : List Keyword).length + (if ([] : List Keyword).isEmpty then 0 else 1) < 30)) = true := by rfl) (hline : (apos.endLine == pos.line) = true := by rfl) (hs : starEach [a] X.env = (false, eval a X.env) :: starEach [] X.env := by rfl) :
    OE X W (.Call (.Attribute o "append" apos) [a] [] pos) (eMut isL fApp mo (aCons ma aNil)) := oe_mut PySem.F.plainAttrs_list PySem.F.slot_list_append PySem.F.type_list_append mt_append guardL ok_app ho (oa_cons ha oa_nil hs) hbase hfew hline hs rfl
def fExt : FM := fun d ds S => match d, ds with
  | .c k, [y] => (match S[k]?, rd S y with
    | some (.lst xs), some (.lst ys) => if xs.length + ys.length ≤ 100000 then .ok (.p .non) (S.set k (.lst (xs ++ ys))) else .bad
    | _, _ => .bad)
  | _, _ => .bad
theorem ok_ext {K : PySem.W.Frag} : MutOk K rExtend fExt := by
  intro io F S H d v ds vs Q E st r1 r2 h
  match d, ds, r1, r2, h with
  | .p x, ds, _, _, h => exact h.elim
  | .c k, [], _, _, h => exact h.elim
  | .c k, _ :: _ :: _, _, _, h => exact h.elim
  | .c k, [y], r1, r2, h =>
    obtain ⟨a, ha, rfl⟩ := r1
    obtain ⟨w, rfl, rw'⟩ := r2.one
    unfold fExt at h
    dsimp only at h
    split at h
    · rename_i xs ys hk hy
      by_cases q : xs.length + ys.length ≤ 100000
      · rw [if_pos q] at h
        obtain ⟨b, us, hb, hF, hH, hr⟩ := st.cel k _ hk
        rw [ha] at hb; cases hb
        obtain ⟨b, ws, rfl, hb, hr2⟩ := st.rd rw' hy
        refine ⟨a, b, us, ws, rfl, rfl, hH, hb, by rw [hr.length, hr2.length]; exact sz5 q, ?_⟩
        obtain ⟨s2, n2⟩ := st.wlst hk (fun _ z => nomatch z) (fun z => nomatch z) (fun _ z => nomatch z) ha (hr.append hr2)
        exact h io F _ .non n2 s2 rfl
      · rw [if_neg q] at h; exact h.elim
    · exact h.elim
theorem oe_extend (ho : OE X W o mo) (ha : OE X W a ma) (hbase : attributeBase o "extend" X.env (eval o X.env) = eval o X.env := by rfl)
    (hfew : ((backTo pos (starEach [a] X.env)).all (fun x => !x.1) && (backToKw pos (keywordEach [] X.env)).all (fun x => x.1.isSome)
      && decide (([a] : List Expr).length + ([] : List Keyword).length + (if ([] : List Keyword).isEmpty then 0 else 1) < 30)) = true := by rfl) (hline : (apos.endLine == pos.line) = true := by rfl) (hs : starEach [a] X.env = (false, eval a X.env) :: starEach [] X.env := by rfl) :
    OE X W (.Call (.Attribute o "extend" apos) [a] [] pos) (eMut isL fExt mo (aCons ma aNil)) := oe_mut PySem.F.plainAttrs_list PySem.F.slot_list_extend PySem.F.type_list_extend mt_extend guardL ok_ext ho (oa_cons ha oa_nil hs) hbase hfew hline hs rfl
def fPopAt : FM := fun d ds S => match d, ds with
  | .c k, [.p (.int i)] => (match S[k]? with
    | some (.lst xs) => (match ixN xs.length i with
      | some j => (match xs[j]? with
        | some y => if -(2 ^ 62) ≤ i ∧ i < 2 ^ 62 then .ok (.p y) (S.set k (.lst (xs.eraseIdx j))) else .bad
        | none => .bad)
      | none => .bad)
    | _ => .bad)
  | _, _ => .bad
theorem ok_popAt {K : PySem.W.Frag} : MutOk K rPopAt fPopAt := by
  intro io F S H d v ds vs Q E st r1 r2 h
  unfold fPopAt at h
  split at h
  · rename_i k i
    obtain ⟨a, ha, rfl⟩ := r1
    obtain ⟨w, rfl, rw'⟩ := r2.one
    have rw' : w = .int i := rw'
    subst rw'
    split at h
    · rename_i xs hk
      cases hj : ixN xs.length i with
      | none => rw [hj] at h; exact h.elim
      | some j =>
        rw [hj] at h
        dsimp only at h
        cases hy : xs[j]? with
        | none => rw [hy] at h; exact h.elim
        | some y =>
          rw [hy] at h
          dsimp only at h
          by_cases q : -(2 ^ 62) ≤ i ∧ i < 2 ^ 62
          · rw [if_pos q] at h
            obtain ⟨b, us, hb, hF, hH, hr⟩ := st.cel k _ hk
            rw [ha] at hb; cases hb
            obtain ⟨w, hw, rw'⟩ := hr.get hy
            refine ⟨a, us, i, j, w, rfl, rfl, hH, by omega, by omega, by rw [hr.length]; exact (ixN_seq hj).1, hw, ?_⟩
            obtain ⟨s2, n2⟩ := st.wlst hk (fun _ z => nomatch z) (fun z => nomatch z) (fun _ z => nomatch z) ha (hr.eraseIdx j)
            exact h io F _ w n2 s2 (Rep.mono n2.fr rw')
          · rw [if_neg q] at h; exact h.elim
    · exact h.elim
  · exact h.elim
theorem oe_popAt (ho : OE X W o mo) (ha : OE X W a ma) (hbase : attributeBase o "pop" X.env (eval o X.env) = eval o X.env := by rfl)
    (hfew : ((backTo pos (starEach [a] X.env)).all (fun x => !x.1) && (backToKw pos (keywordEach [] X.env)).all (fun x => x.1.isSome)
      && decide (([a] : List Expr).length + ([] : List Keyword).length + (if ([] : List Keyword).isEmpty then 0 else 1) < 30)) = true := by rfl) (hline : (apos.endLine == pos.line) = true := by rfl) (hs : starEach [a] X.env = (false, eval a X.env) :: starEach [] X.env := by rfl) :
    OE X W (.Call (.Attribute o "pop" apos) [a] [] pos) (eMut isL fPopAt mo (aCons ma aNil)) := oe_mut PySem.F.plainAttrs_list PySem.F.slot_list_pop PySem.F.type_list_pop mt_popAt guardL ok_popAt ho (oa_cons ha oa_nil hs) hbase hfew hline hs rfl
def ixV (d i : Vl) (S : Sto) : Res Vl := match d, i with
  | .c k, .p (.int j) => (match S[k]? with
    | some (.lsv xs) => (match atI xs j with
      | some x => .ok x S
      | none => .bad)
    | _ => op2 pIx d i S)
  | _, _ => op2 pIx d i S
def eItem (a b : ME) : ME := fun ρ S => (a ρ S).bind fun d S1 => (b ρ S1).bind fun i S2 => ixV (nv S2 d) i S2
theorem atI_repV {K : PySem.W.Frag} {io : Io} {F : Hp} {xs : List Vl} {vs : List V} {i : Int} {z : Vl} (r : RepVs K io F xs vs) (e : atI xs i = some z) : ∃ v, atI vs i = some v ∧ RepV K io F z v := by
  unfold atI at e ⊢
  rw [r.length]
  cases q : ixN xs.length i with
  | none => rw [q] at e; cases e
  | some k =>
    rw [q] at e
    exact r.get e
theorem oe_it (ha : OE X W a ma) (hb : OE X W b mb) (hs : PlainIx b := by intro _ _; rfl) : OE X W (.Subscript a b pos) (eItem ma mb) := by
  obtain ⟨ta, pa, ha⟩ := ha
  obtain ⟨tb, pb, hb⟩ := hb
  refine ⟨_, pe_ix (IxR.or (IxR.or ix_list ix_tup) ix_str) pa pb hs, fun ρ S io F σ H Q st en h => ?_⟩
  refine ha ρ S io F σ H _ st en (RG.bind h fun d S1 io1 F1 H1 v e1 n1 s1 r1 h1 => ?_)
  refine hb ρ S1 io1 F1 σ H1 _ s1 (en.nxt n1) (RG.bind h1 fun d2 S2 io2 F2 H2 v2 e2 n2 s2 r2 h2 => ?_)
  replace r1 := s2.nv (r1.mono n2.han n2.fr)
  generalize nv S2 d = d at r1 h2
  unfold ixV at h2
  split at h2
  · rename_i k j
    split at h2
    · rename_i xs hk
      cases hx : atI xs j with
      | none => rw [hx] at h2; exact h2.elim
      | some x =>
        rw [hx] at h2
        obtain ⟨a', ha', rfl⟩ := r1
        have r2 : v2 = .int j := r2
        subst r2
        obtain ⟨b, us, hb, hF, hH, hr, _⟩ := s2.cel k _ hk
        rw [ha'] at hb; cases hb
        obtain ⟨u, hu, ru⟩ := atI_repV hr hx
        exact .inl (.inl ⟨a', us, j, u, rfl, rfl, SqL.of hH, hu, h2 io2 F2 H2 u Nxt.refl s2 ru⟩)
    · exact s2.op2 ok_ix r1 r2 h2
  · exact s2.op2 ok_ix r1 r2 h2
def setV (o i v : Vl) (S : Sto) : Res Unit := match o, i with
  | .c k, .p (.int j) => (match S[k]? with
    | some (.lst _) => (frz v S).bind fun z S1 => (match S1[k]? with
      | some (.lst xs) => (match ixN xs.length j with
        | some n => .ok () (S1.set k (.lst (xs.set n z)))
        | none => .bad)
      | _ => .bad)
    | some (.lsv xs) => (match ixN xs.length j with
      | some n => (match v with
        | .p _ => .ok () (S.set k (.lsv (xs.set n v)))
        | .c m => if m < k then .ok () (S.set k (.lsv (xs.set n v))) else .bad)
      | none => .bad)
    | _ => .bad)
  | _, _ => .bad
def gSubM (o i : ME) : MG := fun d ρ S => (o ρ S).nox.bind fun a S1 => (i ρ S1).nox.bind fun b S2 => (setV a b d S2).bind fun _ S3 => .ok ρ S3
theorem Sta.setV {K : PySem.W.Frag} {io : Io} {F : Hp} {S : Sto} {H : Hp} {o i d : Vl} {vo vi v : V} {C D : Type} {R' : Io → Hp → C → D → Prop} {g : Unit → Sto → Res C} {Q : D → Hp → Prop} {E : XK} (st : Sta K io F S H) (ro : RepV K io F o vo) (ri : RepV K io F i vi) (rv : RepV K io F d v)
    (h : RG K R' ((Mir.setV o i d S).bind g) io F H Q E) : ∃ p xs k j, vo = .ref p ∧ vi = .int k ∧ H p = some (.lst xs) ∧ ixN xs.length k = some j ∧ ∃ S' F', Nxt io F H io F' (upd H p (.lst (xs.set j v))) ∧ Sta K io F' S' (upd H p (.lst (xs.set j v))) ∧ RG K R' (g () S') io F' (upd H p (.lst (xs.set j v))) Q E := by
  unfold Mir.setV at h
  split at h
  · rename_i k j
    obtain ⟨a, ha, rfl⟩ := ro
    have ri : vi = .int j := ri
    subst ri
    cases hk : S[k]? with
    | none => rw [hk] at h; exact h.elim
    | some c =>
      rw [hk] at h
      cases c with
      | lst xs0 =>
        dsimp only at h
        have q : ((Mir.frz d S).bind fun z S1 => (match S1[k]? with
          | some (.lst xs) => (match ixN xs.length j with
            | some n => Res.ok () (S1.set k (.lst (xs.set n z)))
            | none => .bad)
          | _ => .bad)).bind g = (Mir.frz d S).bind fun z S1 => (match S1[k]? with
          | some (.lst xs) => (match ixN xs.length j with
            | some n => Res.ok () (S1.set k (.lst (xs.set n z)))
            | none => .bad)
          | _ => .bad).bind g := by cases Mir.frz d S <;> rfl
        rw [q] at h
        obtain ⟨z, S1, F1, n1, s1, rp, hz, h1⟩ := st.frz rv h
        cases hk1 : S1[k]? with
        | none => rw [hk1] at h1; exact h1.elim
        | some c1 =>
          rw [hk1] at h1
          cases c1 with
          | lst xs =>
            dsimp only at h1
            cases hn : ixN xs.length j with
            | none => rw [hn] at h1; exact h1.elim
            | some n =>
              rw [hn] at h1
              obtain ⟨b, us, hb, hF, hH, hr⟩ := s1.cel k _ hk1
              rw [ha] at hb; cases hb
              obtain ⟨s2, n2⟩ := s1.wlst hk1 (fun _ z => nomatch z) (fun z => nomatch z) (fun _ z => nomatch z) ha (hr.set n rp)
              exact ⟨a, us, j, n, rfl, rfl, hH, by rw [hr.length]; exact hn, _, F1, n1.trans n2, s2, RG.step n2 h1⟩
          | _ => exact h1.elim
      | lsv xs =>
        dsimp only at h
        cases hn : ixN xs.length j with
        | none => rw [hn] at h; exact h.elim
        | some n =>
          rw [hn] at h
          obtain ⟨b, us, hb, hF, hH, hr, hlt⟩ := st.cel k _ hk
          rw [ha] at hb; cases hb
          have key : ∀ (hj : ∀ j, d = .c j → j < k), RG K R' ((Res.ok () (S.set k (.lsv (xs.set n d)))).bind g) io F H Q E → ∃ S' F', Nxt io F H io F' (upd H a (.lst (us.set n v))) ∧ Sta K io F' S' (upd H a (.lst (us.set n v))) ∧ RG K R' (g () S') io F' (upd H a (.lst (us.set n v))) Q E := fun hj h => by
            obtain ⟨s2, n2⟩ := st.wlsv hk (fun _ z => nomatch z) (fun z => nomatch z) (fun _ z => nomatch z) ha (hr.set n rv) (fun j hm => by
              rcases List.mem_or_eq_of_mem_set hm with z | z
              · exact hlt j z
              · exact hj j z.symm)
            exact ⟨_, F, n2, s2, RG.step n2 h⟩
          refine ⟨a, us, j, n, rfl, rfl, hH, by rw [hr.length]; exact hn, ?_⟩
          cases d with
          | p x => exact key (fun j z => nomatch z) h
          | c m =>
            dsimp only at h
            by_cases q2 : m < k
            · rw [if_pos q2] at h
              exact key (fun i z => by cases z; exact q2) h
            · rw [if_neg q2] at h; exact h.elim
      | _ => exact h.elim
  · exact h.elim
theorem og_sub (ho : OE X W0 o mo) (hi : OE X W0 a ma)
    (hs : ∀ v, assign (.Subscript o a pos) X.env v = (do
      let ov ← holding [v] (eval o X.env)
      let iv ← holding [v, ov] (eval a X.env)
      standAt pos
      holding [v, ov, iv] (setItem ov iv v)
      release [v, ov, iv] []) := by intro _; rfl) : OG X W0 (.Subscript o a pos) [] (gSubM mo ma) := by
  obtain ⟨to, po, ho⟩ := ho
  obtain ⟨ti, pi, hi⟩ := hi
  refine ⟨_, pg_sub po pi set_list hs, fun d v ρ S io F σ H Q st en rv h => ?_⟩
  refine ho ρ S io F σ H _ st en (RG.nox h fun d1 S1 io1 F1 H1 v1 e1 n1 s1 r1 h1 => ?_)
  refine hi ρ S1 io1 F1 σ H1 _ s1 (en.nxt n1) (RG.nox h1 fun d2 S2 io2 F2 H2 v2 e2 n2 s2 r2 h2 => ?_)
  obtain ⟨p, xs, k, j, e3, e4, hp, hj, S3, F3, n3, s3, h3⟩ := s2.setV (r1.mono n2.han n2.fr) r2 (rv.mono (n1.trans n2).han (n1.trans n2).fr) h2
  exact ⟨p, xs, k, j, e3, e4, hp, hj, h3 io2 F3 _ σ Nxt.refl s3 ⟨en.nxt ((n1.trans n2).trans n3), agree_refl⟩⟩
end
end Mir

namespace Mir
open PySem L2
structure RoomG (k : Nat) (A : Around) : Prop where
  r : Room k A
  gd : A.guards = some []
theorem RoomG.mono {j k : Nat} {A : Around} (r : RoomG k A) (h : j ≤ k) : RoomG j A := ⟨r.r.mono h, r.gd⟩
theorem RoomG.deeper {k : Nat} {A : Around} (r : RoomG (k + 1) A) (env : PySem.Env) : RoomG k (A.deeper env) := ⟨r.r.deeper env, r.gd⟩
theorem RoomG.in1 {k : Nat} {A : Around} (r : RoomG (k + 1) A) : RoomG k A.in1 := ⟨r.r.in1, r.gd⟩
theorem make_guards {A : Around} {C : Addr} {us : List Value} {kw : List (Str × Value)} (h : A.guards = some []) : (A.under (.builtin "type.__call__" ⟨.ref C :: us, kw⟩)).guards = some [] := by
  have e : (Code.builtin "type.__call__" ⟨.ref C :: us, kw⟩).guards = [] := by
    unfold Code.guards
    rw [if_neg]
    show ¬ (guardIds.contains "type.__call__" = true)
    decide +kernel
  show pushGuards (Code.builtin "type.__call__" ⟨.ref C :: us, kw⟩).guards A.guards = some []
  rw [e, h]
  rfl
theorem RoomG.make {k : Nat} {A : Around} (r : RoomG (k + 1) A) (C : Addr) (us : List Value) (kw : List (Str × Value)) : RoomG k (A.under (.builtin "type.__call__" ⟨.ref C :: us, kw⟩)) := ⟨r.r.make C us kw, make_guards r.gd⟩
structure FnG (P : Program) (w : World) (K : PySem.W.Frag) (mg : Str → Option Value) (base : Heap) (k : Nat) (f : Addr) (fd : FuncData) (ps : List Str) (sp : Sp) : Prop where
  len : ∀ vs H Q E, sp vs H Q E → vs.length = ps.length
  run : ∀ (A : Around) (outer : List PySem.Env) (s : Shared) (H : Hp) (args : Args) (us : List Value) (vs : List V) (Q : VK) (E : XK), RoomG k A → Env0 P w K mg base A outer s H → BindsTo s fd args (ps.zip us) → Vals vs us → sp vs H Q E →
    codeAny (model P w) A (.call (.ref f) args) (CR (L2.CX P w) outer P w H s Q E) s
theorem FnG.mono {P : Program} {w : World} {K : PySem.W.Frag} {mg : Str → Option Value} {base : Heap} {j k : Nat} {f : Addr} {fd : FuncData} {ps : List Str} {sp : Sp} (F : FnG P w K mg base j f fd ps sp) (h : j ≤ k) : FnG P w K mg base k f fd ps sp :=
  ⟨F.len, fun A outer s H args us vs Q E hr => F.run A outer s H args us vs Q E (hr.mono h)⟩
theorem fnG_ofC {P : Program} {w : World} {K : PySem.W.Frag} {mg : Str → Option Value} {base : Heap} {x qual : Str} {params : Arguments} {body : List Stmt} {scope : Scope} {dvs : List V} {kws : List (Str × V)} {f : Addr} {fd : FuncData} {N ps : List Str} {k : Nat} {sp : Sp}
    (F : FunD K x qual params body scope dvs kws f fd) (S : FnScope N ps scope) (len : ∀ vs H Q E, sp vs H Q E → vs.length = ps.length)
    (hbody : ∀ (cdv : Value) (A : Around) (outer : List PySem.Env) (s : Shared) (H : Hp) (vs : List V) (Q : VK) (E : XK), fd.code = cdv → RoomG k (A.deeper (PyProof.Rows.envOfC qual scope s.heap.objs.size f cdv)) → sp vs H Q E →
      ∃ t, PSs (cxOf (L2.CX P w) P w K mg base N qual scope f cdv A outer s H E) body t ∧ t { nx := fun _ H' => Q .non H', rt := Q } (L2.start N vs) H) : FnG P w K mg base (k + 1) f fd ps sp := by
  obtain ⟨oc, od, dV, kV, doc, pm, an, cdv, ct, osl, rfl, lk, hcd, _, _⟩ := F.ex
  refine ⟨len, fun A outer s H args us vs Q E hr e0 hb r hsp => ?_⟩
  have KX : K.In s.heap := e0.mod.kin.keeps fun b o e => (e0.bs b o e).1
  have lim : s.heap.NoLimit := e0.mod.nolimit.keeps fun b o e => (e0.bs b o e).1
  refine codeAny_call_function hr.r.depth (KX _ _ lk) rfl S.co S.gen rfl (PySem.W.codeRec_of KX hcd) (hb _ _ _ _ ?_)
  refine wpAny_newFunctionEnv_cells S.kind (fun y hy => ?_) fun env he s1 x => ?_
  · rcases S.par y.1 (List.of_mem_zip hy).1 with q | q
    · exact .inl q
    · exact .inr ⟨q, PySem.W.cellsFrom_some _ _ _ (.inl q)⟩
  · subst he
    obtain ⟨t, ht, hq⟩ := hbody cdv A outer s H vs Q E rfl (hr.deeper _) hsp
    refine ⟨lim.keeps x.toInCall.keep, codeAny_func ?_⟩
    refine wpAny_mono (ht.run [] s1 (L2.start N vs) H _ (inv_start S hr.r.hd e0 (len _ _ _ _ hsp) r x) hq) (fun fl s' hs => ?_) fun e s' hs => hs
    cases fl with
    | ret u =>
      obtain ⟨v, σ', H', J, rv, q⟩ := hs
      exact ⟨v, H', J.os, J.bare, J.base, J.hok, rv, q⟩
    | next =>
      obtain ⟨σ', H', J, q⟩ := hs
      exact ⟨.non, H', J.os, J.bare, J.base, J.hok, rfl, q⟩
    | brk =>
      obtain ⟨_, _, _, q⟩ := hs
      exact q.elim
    | cont =>
      obtain ⟨_, _, _, q⟩ := hs
      exact q.elim
theorem fnG_of {P : Program} {w : World} {K : PySem.W.Frag} {mg : Str → Option Value} {base : Heap} {x qual : Str} {params : Arguments} {body : List Stmt} {scope : Scope} {dvs : List V} {kws : List (Str × V)} {f : Addr} {fd : FuncData} {N ps : List Str} {k : Nat} {sp : Sp}
    (F : FunD K x qual params body scope dvs kws f fd) (S : FnScope N ps scope) (len : ∀ vs H Q E, sp vs H Q E → vs.length = ps.length)
    (hbody : ∀ (cdv : Value) (A : Around) (outer : List PySem.Env) (s : Shared) (H : Hp) (vs : List V) (Q : VK) (E : XK), RoomG k (A.deeper (PyProof.Rows.envOfC qual scope s.heap.objs.size f cdv)) → sp vs H Q E →
      ∃ t, PSs (cxOf (L2.CX P w) P w K mg base N qual scope f cdv A outer s H E) body t ∧ t { nx := fun _ H' => Q .non H', rt := Q } (L2.start N vs) H) : FnG P w K mg base (k + 1) f fd ps sp := fnG_ofC F S len fun cdv A outer s H vs Q E _ => hbody cdv A outer s H vs Q E
theorem run_fnG {X : Cx} {k : Nat} {f : Addr} {fd : FuncData} {ps : List Str} {sp : Sp} {E : St → XK} {pins : List (Addr × Obj)} {σ : St} {H : Hp} {s : Shared} {Q : VK} {us : List Value} {vs : List V} (F : FnG X.prog X.w X.K X.mg X.base k f fd ps sp) (hr : RoomG k X.A) (hb : Binds X.K fd ps [])
    (hx : PassesAt (L2.CX X.prog X.w) X σ (E σ)) (I : Inv X pins σ H s) (r : Vals vs us) (h : sp vs H Q (E σ)) : wpAny (model X.prog X.w) X.A (call (.ref f) us) (EP X pins σ Q) X.xe s := by
  have hl : us.length = ps.length := by rw [← r.length]; exact F.len _ _ _ _ h
  have b := hb s us I.kIn (by rw [List.append_nil]; exact hl)
  rw [List.append_nil] at b
  refine wpAny_call (codeAny_mono (F.run X.A X.stack s H ⟨us, []⟩ us vs Q (E σ) hr I.env0 b r h) fun r s' hq => ?_)
  match r, hq with
  | .error e, hq => exact hx pins H s e s' I hq
  | .ok (.ret u), hq => exact I.after hq
  | .ok .next, hq => exact hq.elim
  | .ok .brk, hq => exact hq.elim
  | .ok .cont, hq => exact hq.elim
abbrev MF := List Vl → Sto → Res Vl
def spM (K : PySem.W.Frag) (m : MF) : Sp := fun vs H Q E => ∃ io F S ds, Sta K io F S H ∧ RepVs K io F ds vs ∧ RG K (RepA K) (m ds S) io F H Q E
def retV (n : Nat) (d : Vl) (S : Sto) : Res Vl := match d with
  | .p x => .ok (.p x) (S.take n)
  | .c j => if j < n then .ok (.c j) (S.take n) else (frz (.c j) S).bind fun y S2 => .ok (.p y) (S2.take n)
def endF (n : Nat) (r : RF) : Res Vl := match r with
  | .ok (.rt d) S => retV n d S
  | .ok (.nx _) S => .ok (.p .non) (S.take n)
  | .ok (.xc _ c x) S => .exc c x (S.take n)
  | _ => .bad
def mkF (n k : Nat) (body : MS) : MF := fun ds S => if ds.length = n then endF S.length (body (ds.map some ++ List.replicate k none) S) else .bad
def endK (n : Nat) (r : RF) : Res Vl := match r with
  | .ok (.rt (.c j)) S => if j < n then .bad else (match S[j]? with
    | some (.lst xs) => .ok (.c n) (S.take n ++ [.lst xs])
    | _ => .bad)
  | .ok (.xc _ c x) S => .exc c x (S.take n)
  | _ => .bad
def mkK (n k : Nat) (body : MS) : MF := fun ds S => if ds.length = n then endK S.length (body (ds.map some ++ List.replicate k none) S) else .bad
section
variable {K : PySem.W.Frag} {io io1 : Io} {F F1 H H1 : Hp} {S S1 : Sto} {Q : VK} {E : XK}
theorem ret_ok (hn : io.length = S.length) (nx : Nxt io F H io1 F1 H1) (st : Sta K io1 F1 S1 H1) {d : Vl} {v : V} (r : RepV K io1 F1 d v) (h : RG K (RepA K) (retV S.length d S1) io F H Q E) : Q v H1 := by
  cases d with
  | p x => exact h (io1.take S.length) F1 H1 v (nx.cut hn) (st.cut _) r
  | c j =>
    unfold retV at h
    dsimp only at h
    by_cases hj : j < S.length
    · rw [if_pos hj] at h
      exact h (io1.take S.length) F1 H1 v (nx.cut hn) (st.cut _) (r.cut fun i e => by cases e; exact hj)
    · rw [if_neg hj] at h
      obtain ⟨y, S2, F2, n2, s2, rp, hz, h2⟩ := st.frz r (RG.step nx h)
      rw [hz] at h
      exact h (io1.take S.length) F2 H1 v ((nx.trans n2).cut hn) (s2.cut _) rp
theorem keep_ok (hn : io.length = S.length) (nx : Nxt io F H io1 F1 H1) (st : Sta K io1 F1 S1 H1) {d : Vl} {v : V} (r : RepV K io1 F1 d v) (h : RG K (RepA K) (endK S.length (.ok (.rt d) S1)) io F H Q E) : Q v H1 := by
  cases d with
  | p x => exact h.elim
  | c j =>
    unfold endK at h
    dsimp only at h
    by_cases hj : j < S.length
    · rw [if_pos hj] at h; exact h.elim
    · rw [if_neg hj] at h
      split at h
      · rename_i xs hk
        obtain ⟨a, ha, rfl⟩ := r
        obtain ⟨b, vs, hb, hF, hH, hr⟩ := st.cel j _ hk
        rw [ha] at hb; cases hb
        have s2 := st.cut S.length
        have hl : (io1.take S.length).length = S.length := by
          rw [List.length_take]
          have : j < io1.length := (List.getElem?_eq_some_iff.mp ha).1
          omega
        have hl2 : (S1.take S.length).length = S.length := by rw [← s2.len]; exact hl
        have hp : ∀ k : Nat, (io1.take S.length)[k]? ≠ some (some a) := fun k e => by
          rw [List.getElem?_take] at e
          split at e
          · have := st.inj k j a e ha
            omega
          · cases e
        have hi : (io1.take S.length ++ [some a])[S.length]? = some (some a) := by
          rw [List.getElem?_append_right (by rw [hl]; exact Nat.le_refl _), hl]
          simp
        obtain ⟨s3, n3⟩ := s2.lay hp hF hH (c := .lst xs) ⟨a, vs, by rw [hl2]; exact hi, hF, hH, hr⟩
        refine h (io1.take S.length ++ [some a]) F1 H1 (.ref a) ?_ s3 ⟨a, hi, rfl⟩
        have nc := nx.cut hn
        refine ⟨fun k x e => n3 k x (nc.han k x e), nc.fr, nc.out, fun k x e => ?_, nc.stay, nc.nf⟩
        rw [List.getElem?_append] at e
        split at e
        · exact nc.new k x e
        · rename_i hk2
          have : k - (io1.take S.length).length = 0 := by
            have := (List.getElem?_eq_some_iff.mp e).1
            simp only [List.length_cons, List.length_nil] at this
            omega
          rw [this] at e
          have e : a = x := by simpa using e
          subst e
          rcases nx.new j a ha with z | z
          · have := (List.getElem?_eq_some_iff.mp z).1
            rw [hn] at this
            exact absurd this hj
          · exact .inr z
      · exact h.elim
end
section
variable {P : Program} {w : World} {K : PySem.W.Frag} {mg : Str → Option Value} {base : Heap} {x qual : Str} {params : Arguments} {body : List Stmt} {scope : Scope} {dvs : List V} {kws : List (Str × V)} {f : Addr} {fd : FuncData} {N ps : List Str} {k nl : Nat} {m : MS}
theorem spM_len {en : Nat → RF → Res Vl} {n k : Nat} {m : MS} {vs : List V} {H : Hp} {Q : VK} {E : XK} (h : spM K (fun ds S => if ds.length = n then en S.length (m (ds.map some ++ List.replicate k none) S) else .bad) vs H Q E) : vs.length = n := by
  obtain ⟨io, F, S, ds, st, r, h⟩ := h
  by_cases q : ds.length = n
  · rw [r.length, q]
  · dsimp only at h
    rw [if_neg q] at h
    exact h.elim
theorem fn_okC (F : FunD K x qual params body scope dvs kws f fd) (sc : FnScope N ps scope) (hN : N.length = ps.length + nl)
    (hb : ∀ (cdv : Value) (A : Around) (outer : List PySem.Env) (s : Shared) (H : Hp) (E : XK), fd.code = cdv → RoomG k (A.deeper (PyProof.Rows.envOfC qual scope s.heap.objs.size f cdv)) → OSs (cxOf (L2.CX P w) P w K mg base N qual scope f cdv A outer s H E) (fun c d _ H' => E c d H') body m) :
    FnG P w K mg base (k + 1) f fd ps (spM K (mkF ps.length nl m)) := by
  refine fnG_ofC F sc (fun vs H Q E h => spM_len h) fun cdv A outer s H vs Q E hcd hr h => ?_
  obtain ⟨t, pt, ht⟩ := hb cdv A outer s H E hcd hr
  refine ⟨t, pt, ?_⟩
  have hl := spM_len h
  obtain ⟨io, FF, S, ds, st, r, h⟩ := h
  have hd : ds.length = ps.length := by rw [← r.length]; exact hl
  unfold mkF at h
  rw [if_pos hd] at h
  have e0 := Env.start (K := K) (io := io) (F := FF) nl r
  have hst : L2.start N vs = vs.map some ++ List.replicate nl none := by
    unfold L2.start
    rw [hN, hl]
    congr 2
    omega
  rw [hst]
  refine ht _ S io FF _ H _ st e0 ?_
  show RS K (m (ds.map some ++ List.replicate nl none) S) io FF H { nx := fun _ H' => Q .non H', rt := Q } (fun c d _ H' => E c d H')
  cases q : m (ds.map some ++ List.replicate nl none) S with
  | bad => rw [q] at h; exact h.elim
  | ok fl S1 =>
    rw [q] at h
    cases fl with
    | nx ρ => exact fun io1 F1 H1 σ1 nx s1 en1 => h (io1.take S.length) F1 H1 .non (nx.cut st.len) (s1.cut _) rfl
    | rt d => exact fun io1 F1 H1 v nx s1 r1 => ret_ok st.len nx s1 r1 h
    | bk ρ => exact h.elim
    | ct ρ => exact h.elim
    | xc ρ c x => exact fun io1 F1 H1 d σ1 nx s1 en1 xr => h (io1.take S.length) F1 H1 d (nx.cut st.len) (s1.cut _) xr
theorem fn_ok (F : FunD K x qual params body scope dvs kws f fd) (sc : FnScope N ps scope) (hN : N.length = ps.length + nl)
    (hb : ∀ (cdv : Value) (A : Around) (outer : List PySem.Env) (s : Shared) (H : Hp) (E : XK), RoomG k (A.deeper (PyProof.Rows.envOfC qual scope s.heap.objs.size f cdv)) → OSs (cxOf (L2.CX P w) P w K mg base N qual scope f cdv A outer s H E) (fun c d _ H' => E c d H') body m) :
    FnG P w K mg base (k + 1) f fd ps (spM K (mkF ps.length nl m)) := fn_okC F sc hN fun cdv A outer s H E _ => hb cdv A outer s H E
theorem fn_okK (F : FunD K x qual params body scope dvs kws f fd) (sc : FnScope N ps scope) (hN : N.length = ps.length + nl)
    (hb : ∀ (cdv : Value) (A : Around) (outer : List PySem.Env) (s : Shared) (H : Hp) (E : XK), RoomG k (A.deeper (PyProof.Rows.envOfC qual scope s.heap.objs.size f cdv)) → OSs (cxOf (L2.CX P w) P w K mg base N qual scope f cdv A outer s H E) (fun c d _ H' => E c d H') body m) :
    FnG P w K mg base (k + 1) f fd ps (spM K (mkK ps.length nl m)) := by
  refine fnG_of F sc (fun vs H Q E h => spM_len h) fun cdv A outer s H vs Q E hr h => ?_
  obtain ⟨t, pt, ht⟩ := hb cdv A outer s H E hr
  refine ⟨t, pt, ?_⟩
  have hl := spM_len h
  obtain ⟨io, FF, S, ds, st, r, h⟩ := h
  have hd : ds.length = ps.length := by rw [← r.length]; exact hl
  unfold mkK at h
  rw [if_pos hd] at h
  have e0 := Env.start (K := K) (io := io) (F := FF) nl r
  have hst : L2.start N vs = vs.map some ++ List.replicate nl none := by
    unfold L2.start
    rw [hN, hl]
    congr 2
    omega
  rw [hst]
  refine ht _ S io FF _ H _ st e0 ?_
  show RS K (m (ds.map some ++ List.replicate nl none) S) io FF H { nx := fun _ H' => Q .non H', rt := Q } (fun c d _ H' => E c d H')
  cases q : m (ds.map some ++ List.replicate nl none) S with
  | bad => rw [q] at h; exact h.elim
  | ok fl S1 =>
    rw [q] at h
    cases fl with
    | nx ρ => exact h.elim
    | rt d => exact fun io1 F1 H1 v nx s1 r1 => keep_ok st.len nx s1 r1 h
    | bk ρ => exact h.elim
    | ct ρ => exact h.elim
    | xc ρ c x => exact fun io1 F1 H1 d σ1 nx s1 en1 xr => h (io1.take S.length) F1 H1 d (nx.cut st.len) (s1.cut _) xr
end
def HasPar (fd : FuncData) (params : Arguments) : Prop := ∃ (x qual : Str) (body : List Stmt) (scope : Scope) (kV doc pm : Value) (an : Option Addr) (cdv ct : Value), fd = PySem.W.fnOf x qual params body scope .none kV doc pm an cdv ct
def fdAt (K : PySem.W.Frag) (a : Addr) : Option FuncData := match K.lookup a with
  | some ⟨_, _, .func fd, _⟩ => some fd
  | _ => none
structure GF (P : Program) (w : World) (K : PySem.W.Frag) (mg : Str → Option Value) (base : Heap) (x : Str) (params : Arguments) (ps : List Str) (k : Nat) (m : MF) : Prop where
  gl : mg x = some (.ref (He.ga K x))
  kp : PySem.W.keepIn K (.ref (He.ga K x)) = true
  fn : ∃ fd, FnG P w K mg base k (He.ga K x) fd ps (spM K m) ∧ Binds K fd ps [] ∧ HasPar fd params ∧ fdAt K (He.ga K x) = some fd
theorem FunD.hasPar {K : PySem.W.Frag} {x qual : Str} {params : Arguments} {body : List Stmt} {scope : Scope} {kws : List (Str × V)} {f : Addr} {fd : FuncData} (F : FunD K x qual params body scope [] kws f fd) : HasPar fd params := by
  obtain ⟨oc, od, dV, kV, doc, pm, an, cdv, ct, osl, e, _, _, hd, _⟩ := F.ex
  rcases hd with ⟨_, rfl⟩ | ⟨z, _⟩
  · exact ⟨x, qual, body, scope, kV, doc, pm, an, cdv, ct, e⟩
  · exact absurd rfl z
theorem FunD.at_ {K : PySem.W.Frag} {x qual : Str} {params : Arguments} {body : List Stmt} {scope : Scope} {dvs : List V} {kws : List (Str × V)} {f : Addr} {fd : FuncData} (F : FunD K x qual params body scope dvs kws f fd) : fdAt K f = some fd := by
  obtain ⟨oc, od, dV, kV, doc, pm, an, cdv, ct, osl, e, lk, _⟩ := F.ex
  unfold fdAt
  rw [lk]
theorem takes0 {X : Cx} : Takes X W0 := fun u s' ⟨_, _, _, _, _, _, _, _, _, _, _, _, _, _, _, _, h⟩ => h.elim
def eFn (m : MF) (a : MA) : ME := fun ρ S => (a ρ S).bind m
section
variable {X : Cx} {W : WX} {e o : Expr} {es : List Expr} {mas : MA} {mo : ME} {x : Str} {p pos apos : Pos} {params : Arguments} {ps : List Str} {k j : Nat} {m : MF}
theorem oe_fn (G : GF X.prog X.w X.K X.mg X.base x params ps k m) (hr : RoomG j X.A) (hk : k ≤ j) (tk : Takes X W) (ha : OA X W (e :: es) mas) (hg : Gl X x := by rfl)
    (hdb : (x == ("__debug__" : Str)) = false := by decide) (he : starEach (e :: es) X.env = (false, eval e X.env) :: starEach es X.env := by rfl) (hpl : (backTo pos (starEach es X.env)).any (·.1) = false := by rfl) :
    OE X W (.Call (.Name x p) (e :: es) [] pos) (eFn m mas) := by
  obtain ⟨fd, F, hb, _⟩ := G.fn
  obtain ⟨t, q, ha⟩ := ha
  refine ⟨fun σ H Q => t σ H fun vs H1 => spM X.K m vs H1 Q (WE W σ), ⟨fun pins s σ H Q I h => ?_⟩, fun ρ S io F σ H Q st en h => ?_⟩
  · refine wpAny_Call_Name_kw (ld_glob I hg G.gl ?_ hdb)
    refine PySem.W.callWith_K (h₀ := X.base) I.ok.mod.kin G.kp (thn (q.run pos pins s σ H _ I h) fun us s1 ⟨vs, H1, I1, r, qq⟩ => ⟨I1.kIn, ?_⟩) he hpl
    exact run_fnG (E := WE W) F (hr.mono hk) hb (passAt tk σ) I1 r qq
  refine ha ρ S io F σ H _ st en (RG.bind h fun ds S1 io1 F1 H1 vs e1 n1 s1 r1 h1 => ?_)
  exact ⟨io1, F1, S1, ds, s1, r1, h1⟩
end
def permL {A : Type} (d : A) (pm : List Nat) (xs : List A) : List A := pm.map fun i => xs.getD i d
def KwTo (params : Arguments) (ps ks : List Str) (n : Nat) (pm : List Nat) : Prop := ∀ (x qual : Str) (body : List Stmt) (scope : Scope) (kV doc pmv : Value) (an : Option Addr) (cdv ct : Value) (us ws : List Value), us.length = n → ws.length = ks.length →
  bindArgs (PySem.W.fnOf x qual params body scope .none kV doc pmv an cdv ct) ⟨us, ks.zip ws⟩ = pure (ps.zip (permL .none pm (us ++ ws)))
theorem vals_perm {vs : List V} {us : List Value} (h : Vals vs us) : ∀ pm : List Nat, (∀ i ∈ pm, i < vs.length) → Vals (permL .non pm vs) (permL .none pm us)
  | [], _ => .nil
  | i :: pm, hi => by
    have hl := h.length
    have h0 := hi i List.mem_cons_self
    obtain ⟨u, hu, ru⟩ := h.get (show vs[i]? = some vs[i] by simp [h0])
    refine Paired.cons ?_ (vals_perm h pm fun j hj => hi j (List.mem_cons_of_mem _ hj))
    show RelV (vs.getD i .non) (us.getD i .none)
    rw [List.getD_eq_getElem?_getD, List.getD_eq_getElem?_getD, hu]
    simpa [h0] using ru
theorem RepVs.perm {K : PySem.W.Frag} {io : Io} {F : Hp} {ds : List Vl} {vs : List V} (h : RepVs K io F ds vs) : ∀ pm : List Nat, (∀ i ∈ pm, i < vs.length) → RepVs K io F (permL (.p .non) pm ds) (permL .non pm vs)
  | [], _ => rfl
  | i :: pm, hi => by
    have hl := h.length
    have h0 := hi i List.mem_cons_self
    obtain ⟨u, hu, ru⟩ := h.get (show ds[i]? = some (ds[i]'(by omega)) by simp)
    refine ⟨vs.getD i .non, _, rfl, ?_, RepVs.perm h pm fun j hj => hi j (List.mem_cons_of_mem _ hj)⟩
    show RepV K io F (ds.getD i (.p .non)) (vs.getD i .non)
    rw [List.getD_eq_getElem?_getD, List.getD_eq_getElem?_getD, hu]
    have : i < ds.length := by omega
    simpa [this] using ru
def OK_ (X : Cx) (W : WX) (kws : List Keyword) (m : MA) : Prop := ∃ t, PK X kws t ∧ ∀ (ρ : En) (S : Sto) (io : Io) (F : Hp) (σ : St) (H : Hp) (Q : List V → Hp → Prop), Sta X.K io F S H → Mir.Env X.K io F ρ σ →
  RG X.K (RepAs X.K) (m ρ S) io F H Q (fun c d H' => W c d σ H') → t σ H Q
section
variable {X : Cx} {W : WX} {e o : Expr} {es : List Expr} {mas mks : MA} {me mo : ME} {x : Str} {p pos apos kpos : Pos} {params : Arguments} {ps ks : List Str} {k j n : Nat} {m : MF} {kws : List Keyword} {nm : Option Str} {pm : List Nat}
theorem ok_nil : OK_ X W [] aNil := ⟨_, pk_nil, fun ρ S io F σ H Q st en h => RG.val (R := RepAs X.K) (d := []) (v := []) st rfl h⟩
theorem ok_cons (ha : OE X W e me) (hr : OK_ X W kws mas) : OK_ X W (⟨nm, e, kpos⟩ :: kws) (aCons me mas) := by
  obtain ⟨t, p, ha⟩ := ha
  obtain ⟨u, q, hr⟩ := hr
  refine ⟨_, pk_cons p q, fun ρ S io F σ H Q st en h => ?_⟩
  refine ha ρ S io F σ H _ st en (RG.bind h fun d S1 io1 F1 H1 v e1 n1 s1 r1 h1 => ?_)
  refine hr ρ S1 io1 F1 σ H1 _ s1 (en.nxt n1) (RG.bind h1 fun d2 S2 io2 F2 H2 v2 e2 n2 s2 r2 h2 => ?_)
  exact RG.val (R := RepAs X.K) (d := d :: d2) s2 ⟨v, v2, rfl, r1.mono n2.han n2.fr, r2⟩ h2
def eFnK (m : MF) (n : Nat) (kl : Nat) (pm : List Nat) (a b : MA) : ME := fun ρ S => (a ρ S).bind fun ds S1 => (b ρ S1).bind fun zs S2 => if ds.length = n ∧ zs.length = kl then m (permL (.p .non) pm (ds ++ zs)) S2 else .bad
theorem run_kw {pins : List (Addr × Obj)} {σ : St} {H : Hp} {s : Shared} {Q : VK} {f : Addr} {fd : FuncData} {us ws : List Value} {vs zs : List V} {sp : Sp} {E : St → XK} (F : FnG X.prog X.w X.K X.mg X.base k f fd ps sp) (hr : RoomG k X.A) (hp : HasPar fd params) (hb : KwTo params ps ks n pm) (hx : PassesAt (L2.CX X.prog X.w) X σ (E σ))
    (hpm : ∀ i ∈ pm, i < n + ks.length) (I : Inv X pins σ H s) (r : Vals vs us) (rz : Vals zs ws) (h1 : vs.length = n) (h2 : zs.length = ks.length) (h : sp (permL .non pm (vs ++ zs)) H Q (E σ)) : wpAny (model X.prog X.w) X.A (call (.ref f) us (ks.zip ws)) (EP X pins σ Q) X.xe s := by
  have r2 : Vals (permL .non pm (vs ++ zs)) (permL .none pm (us ++ ws)) := vals_perm (r.append rz) pm fun i hi => by rw [List.length_append, h1, h2]; exact hpm i hi
  obtain ⟨x, qual, body, scope, kV, doc, pmv, an, cdv, ct, rfl⟩ := hp
  refine wpAny_call (codeAny_mono (F.run X.A X.stack s H ⟨us, ks.zip ws⟩ (permL .none pm (us ++ ws)) (permL .non pm (vs ++ zs)) Q (E σ) hr I.env0 (.of_eq (hb x qual body scope kV doc pmv an cdv ct us ws (by rw [← r.length]; exact h1) (by rw [← rz.length]; exact h2))) r2 h) fun r s' hq => ?_)
  cases r with
  | error e => exact hx pins H s e s' I hq
  | ok fl =>
    cases fl with
    | ret u => exact I.after hq
    | next => exact False.elim hq
    | brk => exact False.elim hq
    | cont => exact False.elim hq
end
end Mir

namespace Mir
open PySem L2
def fldOf {A : Type} (f : Str) : List Str → List A → Option A
  | n :: ns, x :: xs => if f = n then some x else fldOf f ns xs
  | _, _ => none
def putN (f : Str) : List Str → List Str
  | [] => [f]
  | n :: ns => if n = f then n :: ns else n :: putN f ns
def putX {A : Type} (f : Str) (a : A) : List Str → List A → List A
  | n :: ns, x :: xs => if n = f then a :: xs else x :: putX f a ns xs
  | _, _ => [a]
section
variable {K : PySem.W.Frag} {io : Io} {F : Hp} {S : Sto} {H : Hp}
theorem lookup_cons' {B : Type} {f k : Str} {v : B} {r : List (Str × B)} : ((k, v) :: r).lookup f = if f = k then some v else r.lookup f := by
  show (match f == k with | true => some v | false => r.lookup f) = _
  by_cases h : f = k
  · subst h; rw [if_pos rfl, beq_self_eq_true]
  · rw [if_neg h, beq_eq_false_iff_ne.mpr h]
theorem fld_repL : ∀ {ns : List Str} {xs : List P} {gs : List (Str × V)} {f : Str} {x : P}, gs.map (·.1) = ns → RepL K F xs (gs.map (·.2)) → fldOf f ns xs = some x → ∃ v, gs.lookup f = some v ∧ Rep K F x v
  | [], xs, gs, f, x, h1, h2, e => by cases xs <;> cases e
  | n :: ns, [], gs, f, x, h1, h2, e => by cases e
  | n :: ns, y :: xs, [], f, x, h1, h2, e => by cases h1
  | n :: ns, y :: xs, (k, u) :: gs, f, x, h1, ⟨v, r, e1, r1, r2⟩, e => by
    cases h1
    cases e1
    have e : (if f = k then some y else fldOf f (gs.map (·.1)) xs) = some x := e
    rw [lookup_cons']
    by_cases q : f = k
    · rw [if_pos q] at e ⊢
      cases e
      exact ⟨_, rfl, r1⟩
    · rw [if_neg q] at e ⊢
      exact fld_repL rfl r2 e
theorem fld_repV : ∀ {ns : List Str} {xs : List Vl} {gs : List (Str × V)} {f : Str} {x : Vl}, gs.map (·.1) = ns → RepVs K io F xs (gs.map (·.2)) → fldOf f ns xs = some x → ∃ v, gs.lookup f = some v ∧ RepV K io F x v
  | [], xs, gs, f, x, h1, h2, e => by cases xs <;> cases e
  | n :: ns, [], gs, f, x, h1, h2, e => by cases e
  | n :: ns, y :: xs, [], f, x, h1, h2, e => by cases h1
  | n :: ns, y :: xs, (k, u) :: gs, f, x, h1, ⟨v, r, e1, r1, r2⟩, e => by
    cases h1
    cases e1
    have e : (if f = k then some y else fldOf f (gs.map (·.1)) xs) = some x := e
    rw [lookup_cons']
    by_cases q : f = k
    · rw [if_pos q] at e ⊢
      cases e
      exact ⟨_, rfl, r1⟩
    · rw [if_neg q] at e ⊢
      exact fld_repV rfl r2 e
theorem fld_none : ∀ {ns : List Str} {gs : List (Str × V)} {f : Str}, gs.map (·.1) = ns → f ∉ ns → gs.lookup f = none
  | [], [], f, h1, e => rfl
  | [], _ :: _, f, h1, e => by cases h1
  | n :: ns, [], f, h1, e => by cases h1
  | n :: ns, (k, u) :: gs, f, h1, e => by
    cases h1
    rw [lookup_cons', if_neg (fun z => e (by rw [z]; exact List.mem_cons_self))]
    exact fld_none rfl fun z => e (List.mem_cons_of_mem _ z)
theorem put_names : ∀ (gs : List (Str × V)) (f : Str) (v : V), (putF f v gs).map (·.1) = putN f (gs.map (·.1))
  | [], f, v => rfl
  | (k, u) :: gs, f, v => by
    show (if k = f then (k, v) :: gs else (k, u) :: putF f v gs).map (·.1) = if k = f then k :: gs.map (·.1) else k :: putN f (gs.map (·.1))
    by_cases q : k = f
    · rw [if_pos q, if_pos q]; rfl
    · rw [if_neg q, if_neg q]
      show k :: (putF f v gs).map (·.1) = _
      rw [put_names gs f v]
theorem put_vals {d : Vl} {v : V} (hd : RepV K io F d v) {f : Str} : ∀ {gs : List (Str × V)} {xs : List Vl}, RepVs K io F xs (gs.map (·.2)) → RepVs K io F (putX f d (gs.map (·.1)) xs) ((putF f v gs).map (·.2))
  | [], xs, h => by
    cases xs with
    | nil => exact ⟨v, [], rfl, hd, rfl⟩
    | cons x xs => obtain ⟨_, _, e, _⟩ := h; cases e
  | (k, u) :: gs, [], h => by cases h
  | (k, u) :: gs, x :: xs, ⟨w, r, e1, r1, r2⟩ => by
    cases e1
    show RepVs K io F (if k = f then d :: xs else x :: putX f d (gs.map (·.1)) xs) ((if k = f then (k, v) :: gs else (k, u) :: putF f v gs).map (·.2))
    by_cases q : k = f
    · rw [if_pos q, if_pos q]; exact ⟨v, _, rfl, hd, r2⟩
    · rw [if_neg q, if_neg q]; exact ⟨u, _, rfl, r1, put_vals hd r2⟩
theorem put_mem {d : Vl} {f : Str} {j : Nat} : ∀ {ns : List Str} {xs : List Vl}, Vl.c j ∈ putX f d ns xs → Vl.c j ∈ xs ∨ d = .c j
  | [], xs, h => by
    have h : Vl.c j ∈ [d] := by cases xs <;> exact h
    exact .inr (List.mem_singleton.mp h).symm
  | n :: ns, [], h => .inr (List.mem_singleton.mp h).symm
  | n :: ns, x :: xs, h => by
    have h : Vl.c j ∈ if n = f then d :: xs else x :: putX f d ns xs := h
    by_cases q : n = f
    · rw [if_pos q] at h
      rcases List.mem_cons.mp h with z | z
      · exact .inr z.symm
      · exact .inl (List.mem_cons_of_mem _ z)
    · rw [if_neg q] at h
      rcases List.mem_cons.mp h with z | z
      · exact .inl (by rw [z]; exact List.mem_cons_self)
      · rcases put_mem z with y | y
        · exact .inl (List.mem_cons_of_mem _ y)
        · exact .inr y
end
def fldV (c f : Str) (d : Vl) (S : Sto) : Res Vl := match d with
  | .p (.obj c' ns xs) => if c' = c then (match fldOf f ns xs with
    | some x => .ok (.p x) S
    | none => .bad) else .bad
  | .c k => (match S[k]? with
    | some (.ins c' ns xs) => if c' = c then (match fldOf f ns xs with
      | some x => .ok x S
      | none => .bad) else .bad
    | _ => .bad)
  | _ => .bad
def eFld (c f : Str) (mo : ME) : ME := fun ρ S => (mo ρ S).bind fun d S1 => fldV c f (nv S1 d) S1
section
variable {X : Cx} {W : WX} {a b e o : Expr} {ma mb mo : ME} {pos apos : Pos} {c f : Str}
theorem oe_fld (hc : Cls X.K (He.ga X.K c)) (hn : NoAttr X.K (He.ga X.K c) f) (ho : OE X W o mo) (hb : attributeBase o f X.env (eval o X.env) = eval o X.env := by rfl) : OE X W (.Attribute o f pos) (eFld c f mo) := by
  obtain ⟨t, p, ho⟩ := ho
  refine ⟨_, pe_fld p hb, fun ρ S io F σ H Q st en h => ?_⟩
  refine ho ρ S io F σ H _ st en (RG.bind h fun d S1 io1 F1 H1 v e1 n1 s1 r1 h1 => ?_)
  replace r1 := s1.nv r1
  generalize nv S1 d = d at r1 h1
  cases d with
  | p x =>
    cases x with
    | obj c' ns xs =>
      replace h1 : RG X.K (RepA X.K) (if c' = c then (match fldOf f ns xs with
        | some x => .ok (.p x) S1
        | none => .bad) else .bad) io1 F1 H1 Q (fun c d H' => W c d σ H') := h1
      by_cases q : c' = c
      · rw [if_pos q] at h1
        subst q
        cases hx : fldOf f ns xs with
        | none => rw [hx] at h1; exact h1.elim
        | some x =>
          rw [hx] at h1
          obtain ⟨a, dx, gs, rfl, ha, hg, hr⟩ := r1
          obtain ⟨v, hv, rv⟩ := fld_repL hg hr hx
          exact ⟨a, _, dx, gs, v, rfl, s1.sub _ _ ha, hc, hn, hv, h1 io1 F1 H1 v Nxt.refl s1 rv⟩
      · rw [if_neg q] at h1; exact h1.elim
    | _ => exact h1.elim
  | c k =>
    replace h1 : RG X.K (RepA X.K) (match S1[k]? with
      | some (.ins c' ns xs) => if c' = c then (match fldOf f ns xs with
        | some x => .ok x S1
        | none => .bad) else .bad
      | _ => .bad) io1 F1 H1 Q (fun c d H' => W c d σ H') := h1
    cases hk : S1[k]? with
    | none => rw [hk] at h1; exact h1.elim
    | some cc =>
      rw [hk] at h1
      cases cc with
      | ins c' ns xs =>
        dsimp only at h1
        by_cases q : c' = c
        · rw [if_pos q] at h1
          subst q
          cases hx : fldOf f ns xs with
          | none => rw [hx] at h1; exact h1.elim
          | some x =>
            rw [hx] at h1
            obtain ⟨a, ha, rfl⟩ := r1
            obtain ⟨b, dx, gs, hb, hF, hH, hg, hr, _⟩ := s1.cel k _ hk
            rw [ha] at hb; cases hb
            obtain ⟨v, hv, rv⟩ := fld_repV hg hr hx
            exact ⟨a, _, dx, gs, v, rfl, hH, hc, hn, hv, h1 io1 F1 H1 v Nxt.refl s1 rv⟩
        · rw [if_neg q] at h1; exact h1.elim
      | _ => exact h1.elim
def putC (c f : Str) (k : Nat) (d : Vl) (S : Sto) : Res Unit := match S[k]? with
  | some (.ins c' ns xs) => if c' = c ∧ ns.length < 1000 then .ok () (S.set k (.ins c' (putN f ns) (putX f d ns xs))) else .bad
  | _ => .bad
def fSet (c f : Str) (o v : Vl) (S : Sto) : Res Unit := match o with
  | .c k => (match v with
    | .p x => putC c f k (.p x) S
    | .c j => if j < k then putC c f k (.c j) S else (frz (.c j) S).bind fun x S1 => putC c f k (.p x) S1)
  | _ => .bad
def gFldM (c f : Str) (o : ME) : MG := fun d ρ S => (o ρ S).nox.bind fun a S1 => (fSet c f a d S1).bind fun _ S2 => .ok ρ S2
theorem Sta.putC {K : PySem.W.Frag} {io : Io} {F : Hp} {S : Sto} {H : Hp} {k : Nat} {a : Addr} {d : Vl} {v : V} {C D : Type} {R' : Io → Hp → C → D → Prop} {g : Unit → Sto → Res C} {Q : D → Hp → Prop} {E : XK} (st : Sta K io F S H) (ha : io[k]? = some (some a)) (rv : RepV K io F d v) (hj : ∀ j, d = .c j → j < k)
    (h : RG K R' ((Mir.putC c f k d S).bind g) io F H Q E) : ∃ dx fs, H a = some (.ins (He.ga K c) dx fs) ∧ fs.length < 1000 ∧ ∃ S', Nxt io F H io F (upd H a (.ins (He.ga K c) dx (putF f v fs))) ∧ Sta K io F S' (upd H a (.ins (He.ga K c) dx (putF f v fs))) ∧ RG K R' (g () S') io F (upd H a (.ins (He.ga K c) dx (putF f v fs))) Q E := by
  unfold Mir.putC at h
  cases hk : S[k]? with
  | none => rw [hk] at h; exact h.elim
  | some cc =>
    rw [hk] at h
    cases cc with
    | ins c' ns xs =>
      dsimp only at h
      by_cases q : c' = c ∧ ns.length < 1000
      · rw [if_pos q] at h
        obtain ⟨rfl, hl⟩ := q
        obtain ⟨b, dx, gs, hb, hF, hH, hg, hr, hlt⟩ := st.cel k _ hk
        rw [ha] at hb; cases hb
        subst hg
        rw [List.length_map] at hl
        obtain ⟨s2, n2⟩ := st.write (o := .ins (He.ga K c') dx (putF f v gs)) (c := .ins c' (putN f (gs.map (·.1))) (putX f d (gs.map (·.1)) xs)) ha hF ⟨a, dx, putF f v gs, ha, hF, upd_same, put_names gs f v, put_vals rv hr, fun j hm => by
          rcases put_mem hm with z | z
          · exact hlt j z
          · exact hj j z⟩
        exact ⟨dx, gs, hH, hl, _, n2, s2, RG.step n2 h⟩
      · rw [if_neg q] at h; exact h.elim
    | _ => exact h.elim
theorem Sta.fSet {K : PySem.W.Frag} {io : Io} {F : Hp} {S : Sto} {H : Hp} {o d : Vl} {vo v : V} {C D : Type} {R' : Io → Hp → C → D → Prop} {g : Unit → Sto → Res C} {Q : D → Hp → Prop} {E : XK} (st : Sta K io F S H) (ro : RepV K io F o vo) (rv : RepV K io F d v)
    (h : RG K R' ((Mir.fSet c f o d S).bind g) io F H Q E) : ∃ a dx fs, vo = .ref a ∧ H a = some (.ins (He.ga K c) dx fs) ∧ fs.length < 1000 ∧ ∃ S' F', Nxt io F H io F' (upd H a (.ins (He.ga K c) dx (putF f v fs))) ∧ Sta K io F' S' (upd H a (.ins (He.ga K c) dx (putF f v fs))) ∧ RG K R' (g () S') io F' (upd H a (.ins (He.ga K c) dx (putF f v fs))) Q E := by
  cases o with
  | p x => exact h.elim
  | c k =>
    obtain ⟨a, ha, rfl⟩ := ro
    unfold Mir.fSet at h
    dsimp only at h
    cases d with
    | p x =>
      obtain ⟨dx, fs, h1, h2, S', n2, s2, h3⟩ := st.putC ha rv (fun j z => nomatch z) h
      exact ⟨a, dx, fs, rfl, h1, h2, S', F, n2, s2, h3⟩
    | c j =>
      dsimp only at h
      by_cases q : j < k
      · rw [if_pos q] at h
        obtain ⟨dx, fs, h1, h2, S', n2, s2, h3⟩ := st.putC ha rv (fun i z => by cases z; exact q) h
        exact ⟨a, dx, fs, rfl, h1, h2, S', F, n2, s2, h3⟩
      · rw [if_neg q] at h
        have e : ((Mir.frz (.c j) S).bind fun x S1 => Mir.putC c f k (.p x) S1).bind g = (Mir.frz (.c j) S).bind fun x S1 => (Mir.putC c f k (.p x) S1).bind g := by cases Mir.frz (.c j) S <;> rfl
        rw [e] at h
        obtain ⟨x, S1, F1, n1, s1, rp, hz, h1⟩ := st.frz rv h
        obtain ⟨dx, fs, h1, h2, S', n2, s2, h3⟩ := s1.putC (d := .p x) ha rp (fun j z => nomatch z) h1
        exact ⟨a, dx, fs, rfl, h1, h2, S', F1, n1.trans n2, s2, h3⟩
def gFldT (K : PySem.W.Frag) (to : TE) (f : Str) : TG := fun v σ H Q => to σ H fun x H1 => ∃ a C dx fs, x = .ref a ∧ H1 a = some (.ins C dx fs) ∧ Cls K C ∧ NoAttr K C f ∧ fs.length < 1000 ∧ Q σ (upd H1 a (.ins C dx (putF f v fs)))
theorem pg_fld {to : TE} (ho : PE X o to) (ha : ∀ v, assign (.Attribute o f pos) X.env v = (do
      let ov ← holding [v] (eval o X.env)
      standAt pos.atName
      holding [v, ov] (setAttr ov f v)
      release [v, ov] []) := by intro _; rfl) : PG X (.Attribute o f pos) (gFldT X.K to f) := by
  refine ⟨fun pins s σ H v u Q I r h => ?_⟩
  rw [ha]
  refine wpAny_bind (wpAny_holding (thn (ho.run pins s σ H _ I h) fun ov s1 ⟨x, H1, I1, r1, a, C, dx, fs, e1, e2, hc, hn, hl, q1⟩ => ?_))
  subst e1
  obtain rfl : ov = Value.ref a := r1
  refine wpAny_bind (wpAny_standAt (wpAny_bind (wpAny_holding (setattr_ok I1 e2 hc hn hl r fun s2 I2 => ?_))))
  exact wpAny_release ⟨σ, _, I2, q1⟩
theorem og_fld (hc : Cls X.K (He.ga X.K c)) (hn : NoAttr X.K (He.ga X.K c) f) (ho : OE X W0 o mo) (ha : ∀ v, assign (.Attribute o f pos) X.env v = (do
      let ov ← holding [v] (eval o X.env)
      standAt pos.atName
      holding [v, ov] (setAttr ov f v)
      release [v, ov] []) := by intro _; rfl) : OG X W0 (.Attribute o f pos) [] (gFldM c f mo) := by
  obtain ⟨to, po, ho⟩ := ho
  refine ⟨_, pg_fld po ha, fun d v ρ S io F σ H Q st en rv h => ?_⟩
  refine ho ρ S io F σ H _ st en (RG.nox h fun d1 S1 io1 F1 H1 v1 e1 n1 s1 r1 h1 => ?_)
  obtain ⟨a, dx, fs, e2, e3, hl, S2, F2, n2, s2, h2⟩ := s1.fSet r1 (rv.mono n1.han n1.fr) h1
  exact ⟨a, _, dx, fs, e2, e3, hc, hn, hl, h2 io1 F2 _ σ Nxt.refl s2 ⟨en.nxt (n1.trans n2), agree_refl⟩⟩
end
structure GC (P : Program) (w : World) (K : PySem.W.Frag) (mg : Str → Option Value) (base : Heap) (x : Str) (params : Arguments) (ps : List Str) (k : Nat) (m : MF) : Prop where
  gl : mg x = some (.ref (He.ga K x))
  mkr : Mk K (He.ga K x) (He.ma K (He.ga K x) "__init__")
  fn : ∃ fd, FnG P w K mg base k (He.ma K (He.ga K x) "__init__") fd ps (spM K m) ∧ Binds K fd ps [] ∧ HasPar fd params
def endO (kp : Bool) (n : Nat) (r : Res Vl) : Res Vl := match r with
  | .ok (.p .non) S => (match kp with
    | true => .ok (.c n) S
    | false => (frz (.c n) S).bind fun y S1 => .ok (.p y) (S1.take n))
  | .exc c x S => .exc c x (S.take n)
  | _ => .bad
def mkO (kp : Bool) (c : Str) (m : MF) (ds : List Vl) (S : Sto) : Res Vl := endO kp S.length (m (.c S.length :: ds) (S ++ [.ins c [] []]))
section
variable {K : PySem.W.Frag} {io : Io} {F : Hp} {S : Sto} {H : Hp}
theorem Nxt.side {p : Addr} {o : HO} (hp : H p = none) : Nxt io F H io F (upd H p o) := by
  refine ⟨fun _ _ z => z, fun _ _ z => z, fun a o z _ => ?_, fun _ _ z => .inl z, fun a z => ?_, fun _ z => .inl z⟩
  · rw [upd_ne (ne_of_none z hp)]; exact z
  · by_cases q : a = p
    · subst q; exact hp
    · rw [upd_ne q] at z; exact z
theorem mkO_sp {kp : Bool} {c : Str} {m : MF} {ds : List Vl} {vs : List V} {Q : VK} {E : XK} (st : Sta K io F S H) (r : RepVs K io F ds vs) (h : RG K (RepA K) (mkO kp c m ds S) io F H Q E) (x dx : Addr) (hx : H x = none) (hd : H dx = none) (ne : dx ≠ x) :
    spM K m (.ref x :: vs) (upd (upd H dx (.own x)) x (.ins (He.ga K c) dx [])) (fun v H2 => v = .non ∧ Q (.ref x) H2) E := by
  have s1 := st.side (o := .own x) (st.notIn hd) (Same.free st.sub hd)
  have n1 : Nxt io F H io F (upd H dx (.own x)) := Nxt.side hd
  have hx1 : upd H dx (.own x) x = none := by rw [upd_ne (Ne.symm ne)]; exact hx
  have hi : (io ++ [some x])[S.length]? = some (some x) := by rw [← st.len]; simp
  have hF : F x = none := Same.free st.sub hx
  obtain ⟨s2, n2⟩ := s1.push (p := x) (o := .ins (He.ga K c) dx []) (c := .ins c [] []) hx1 ⟨x, dx, [], hi, hF, upd_same, rfl, rfl, fun j hm => by cases hm⟩
  have n12 := n1.trans n2
  refine ⟨io ++ [some x], F, S ++ [.ins c [] []], .c S.length :: ds, s2, ⟨_, _, rfl, ⟨x, hi, rfl⟩, r.mono n12.han n12.fr⟩, ?_⟩
  unfold mkO at h
  cases q : m (.c S.length :: ds) (S ++ [.ins c [] []]) with
  | bad => rw [q] at h; exact h.elim
  | exc c' d' S2 =>
    rw [q] at h
    exact fun io3 F3 H3 d n3 s3 xr => h (io3.take S.length) F3 H3 d ((n12.trans n3).cut st.len) (s3.cut _) xr
  | ok d S2 =>
    rw [q] at h
    intro io3 F3 H3 v n3 s3 rv
    cases d with
    | c k => exact h.elim
    | p y =>
      cases y with
      | non =>
        refine ⟨rv, ?_⟩
        cases kp with
        | true => exact h io3 F3 H3 (.ref x) (n12.trans n3) s3 ⟨x, n3.han _ _ hi, rfl⟩
        | false =>
          have h : RG K (RepA K) ((frz (.c S.length) S2).bind fun y S1 => .ok (.p y) (S1.take S.length)) io F H Q E := h
          obtain ⟨y, S4, F4, n4, s4, rp, hz, h4⟩ := s3.frz (d := .c S.length) (v := .ref x) ⟨x, n3.han _ _ hi, rfl⟩ (RG.step (n12.trans n3) h)
          rw [hz] at h
          exact h (io3.take S.length) F4 H3 (.ref x) (((n12.trans n3).trans n4).cut st.len) (s4.cut _) rp
      | _ => exact h.elim
end
def eMake (kp : Bool) (c : Str) (m : MF) (a : MA) : ME := fun ρ S => (a ρ S).bind fun ds S1 => mkO kp c m ds S1
section
variable {X : Cx} {W : WX} {e o : Expr} {es : List Expr} {mas mks : MA} {me mo : ME} {x f : Str} {p pos apos kpos : Pos} {params : Arguments} {ps ks : List Str} {k j n : Nat} {m : MF} {kws : List Keyword} {pm : List Nat} {kp : Bool}
theorem run_makeS {pins : List (Addr × Obj)} {σ : St} {H : Hp} {s : Shared} {Q : VK} {C f : Addr} {fd : FuncData} {sp : Sp} {E : St → XK} {us : List Value} {vs : List V} (M : Mk X.K C f) (F : FnG X.prog X.w X.K X.mg X.base k f fd ps sp) (hr : RoomG (k + 1) X.A) (hb : Binds X.K fd ps [])
    (hx : PassesAt (L2.CX X.prog X.w) X σ (E σ)) (I : Inv X pins σ H s) (r : Vals vs us)
    (h : ∀ x dx, H x = none → H dx = none → dx ≠ x → sp (.ref x :: vs) (upd (upd H dx (.own x)) x (.ins C dx [])) (fun v H2 => v = .non ∧ Q (.ref x) H2) (E σ)) :
    wpAny (model X.prog X.w) X.A (call (.ref C) us) (EP X pins σ Q) X.xe s := by
  have hq := h (s.heap.objs.size + 1) s.heap.objs.size (I.hok.fresh (Nat.le_succ _)) (I.hok.fresh (Nat.le_refl _)) (Nat.ne_of_lt (Nat.lt_succ_self _))
  have I2 := Inv.made (C := C) I
  have r2 : Vals (V.ref (s.heap.objs.size + 1) :: vs) (Value.ref (s.heap.objs.size + 1) :: us) := .cons rfl r
  have hl : (Value.ref (s.heap.objs.size + 1) :: us).length = ps.length := by
    have e := r2.length
    rw [F.len _ _ _ _ hq] at e
    exact e.symm
  have hb2 := hb { s with heap := (s.heap.push PySem.W.emptyDict).push (PySem.W.instObj C s.heap.objs.size) } (Value.ref (s.heap.objs.size + 1) :: us) I2.kIn (by rw [List.append_nil]; exact hl)
  rw [List.append_nil] at hb2
  refine wpAny_call (make_map (f := f) I.kIn M.makes M.init (beq_iff_eq.mp M.fn) (codeAny_mono (F.run _ X.stack _ _ ⟨Value.ref (s.heap.objs.size + 1) :: us, []⟩ (Value.ref (s.heap.objs.size + 1) :: us) _ _ (E σ) (hr.make C us [])
    (I2.env0.make C us []) hb2 r2 hq) fun r s' hq' => ?_))
  cases r with
  | error e => exact hx pins _ _ e s' I2 hq'
  | ok fl =>
    cases fl with
    | ret u =>
      obtain ⟨v, H', I3, rv, ev, q3⟩ := I2.after hq'
      subst ev
      exact ⟨rv, ⟨V.ref (s.heap.objs.size + 1), H', I3, rfl, q3⟩⟩
    | next => exact False.elim hq'
    | brk => exact False.elim hq'
    | cont => exact False.elim hq'
theorem oe_make (kp : Bool) (G : GC X.prog X.w X.K X.mg X.base x params ps k m) (hr : RoomG j X.A) (hk : k + 1 ≤ j) (tk : Takes X W) (ha : OA X W (e :: es) mas) (hg : Gl X x := by rfl)
    (hdb : (x == ("__debug__" : Str)) = false := by decide) (he : starEach (e :: es) X.env = (false, eval e X.env) :: starEach es X.env := by rfl) (hpl : (backTo pos (starEach es X.env)).any (·.1) = false := by rfl) :
    OE X W (.Call (.Name x p) (e :: es) [] pos) (eMake kp x m mas) := by
  obtain ⟨fd, F, hb, _⟩ := G.fn
  obtain ⟨t, q, ha⟩ := ha
  refine ⟨fun σ H Q => t σ H fun vs H1 => ∀ y dx, H1 y = none → H1 dx = none → dx ≠ y → spM X.K m (.ref y :: vs) (upd (upd H1 dx (.own y)) y (.ins (He.ga X.K x) dx [])) (fun v H2 => v = .non ∧ Q (.ref y) H2) (WE W σ), ⟨fun pins s σ H Q I h => ?_⟩, fun ρ S io F σ H Q st en h => ?_⟩
  · refine wpAny_Call_Name_kw (ld_glob I hg G.gl ?_ hdb)
    refine PySem.W.callWith_K (h₀ := X.base) I.ok.mod.kin G.mkr.kp (thn (q.run pos pins s σ H _ I h) fun us s1 ⟨vs, H1, I1, r, qq⟩ => ⟨I1.kIn, ?_⟩) he hpl
    exact run_makeS (E := WE W) G.mkr F (hr.mono hk) hb (passAt tk σ) I1 r qq
  · refine ha ρ S io F σ H _ st en (RG.bind h fun ds S1 io1 F1 H1 vs e1 n1 s1 r1 h1 => ?_)
    exact fun y dx hy hd ne => mkO_sp s1 r1 h1 y dx hy hd ne
structure GM (P : Program) (w : World) (K : PySem.W.Frag) (mg : Str → Option Value) (base : Heap) (x f : Str) (params : Arguments) (ps : List Str) (k : Nat) (m : MF) : Prop where
  cls : Cls K (He.ga K x)
  me : Meth K (He.ga K x) f (He.ma K (He.ga K x) f)
  fn : ∃ fd, FnG P w K mg base k (He.ma K (He.ga K x) f) fd ps (spM K m) ∧ Binds K fd ps [] ∧ HasPar fd params
def isO (c f : Str) (S : Sto) : Vl → Bool
  | .p (.obj c' ns _) => decide (c' = c) && decide (f ∉ ns)
  | .c k => (match S[k]? with
    | some (.ins c' ns _) => decide (c' = c) && decide (f ∉ ns)
    | _ => false)
  | _ => false
theorem Sta.isO {K : PySem.W.Frag} {io : Io} {F : Hp} {S : Sto} {H : Hp} {c f : Str} {d : Vl} {v : V} (st : Sta K io F S H) (r : RepV K io F d v) (h : Mir.isO c f S d = true) : ∃ a dx fs, v = .ref a ∧ H a = some (.ins (He.ga K c) dx fs) ∧ fs.lookup f = none := by
  cases d with
  | p x =>
    cases x with
    | obj c' ns xs =>
      have h : (decide (c' = c) && decide (f ∉ ns)) = true := h
      rw [Bool.and_eq_true, decide_eq_true_eq, decide_eq_true_eq] at h
      obtain ⟨rfl, hf⟩ := h
      obtain ⟨a, dx, gs, rfl, ha, hg, hr⟩ := r
      exact ⟨a, dx, gs, rfl, st.sub _ _ ha, fld_none hg hf⟩
    | _ => cases h
  | c k =>
    unfold Mir.isO at h
    dsimp only at h
    split at h
    · rename_i c' ns xs hk
      rw [Bool.and_eq_true, decide_eq_true_eq, decide_eq_true_eq] at h
      obtain ⟨rfl, hf⟩ := h
      obtain ⟨a, ha, rfl⟩ := r
      obtain ⟨b, dx, gs, hb, hF, hH, hg, hr, _⟩ := st.cel k _ hk
      rw [ha] at hb; cases hb
      exact ⟨a, dx, gs, rfl, hH, fld_none hg hf⟩
    · cases h
def eMeth (c f : Str) (m : MF) (o : ME) (a : MA) : ME := fun ρ S => (o ρ S).bind fun d S1 => if isO c f S1 (nv S1 d) then (a ρ S1).bind fun ds S2 => m (d :: ds) S2 else .bad
def eMethK (c f : Str) (m : MF) (n kl : Nat) (pm : List Nat) (o : ME) (a b : MA) : ME := fun ρ S => (o ρ S).bind fun d S1 => if isO c f S1 (nv S1 d) then (a ρ S1).bind fun ds S2 => (b ρ S2).bind fun zs S3 => if ds.length = n ∧ zs.length = kl then m (permL (.p .non) pm (d :: ds ++ zs)) S3 else .bad else .bad
theorem oe_meth {pl : Sem Bool} (G : GM X.prog X.w X.K X.mg X.base x f params ps k m) (hr : RoomG j X.A) (hk : k ≤ j) (tk : Takes X W) (ho : OE X W o mo) (ha : OA X W (e :: es) mas)
    (hst : starEach (e :: es) X.env = (false, eval e X.env) :: starEach es X.env := by rfl) (hpl : (backTo pos (starEach es X.env)).any (·.1) = false := by rfl)
    (ht : eval (.Call (.Attribute o f apos) (e :: es) [] pos) X.env = (do
      let ov ← eval o X.env
      standAt apos.atName
      let (f, first) ← holding [ov] (getMethod ov f pl)
      callWith pos f first (backTo pos (starEach (e :: es) X.env)) (backToKw pos (keywordEach [] X.env))) := by rfl) :
    OE X W (.Call (.Attribute o f apos) (e :: es) [] pos) (eMeth x f m mo mas) := by
  obtain ⟨fd, F, hb, _⟩ := G.fn
  obtain ⟨u, p, ho⟩ := ho
  obtain ⟨t, q, ha⟩ := ha
  refine ⟨fun σ H Q => u σ H fun y H1 => ∃ a dx fs, y = .ref a ∧ H1 a = some (.ins (He.ga X.K x) dx fs) ∧ fs.lookup f = none ∧ t σ H1 fun vs H2 => spM X.K m (y :: vs) H2 Q (WE W σ), ⟨fun pins s σ H Q I h => ?_⟩, fun ρ S io F σ H Q st en h => ?_⟩
  · refine PySem.W.methodCall_KW (pl := pl) (thn (p.run pins s σ H _ I h) fun v s1 ⟨y, H1, I1, rx, a, dx, fs, ex, ea, l, qq⟩ => ?_) ht
    subst ex
    obtain rfl : v = Value.ref a := rx
    refine getmeth_ok I1 ea G.cls G.me l ?_
    refine PySem.W.callWith_K (first := [.ref a]) (h₀ := X.base) I.ok.mod.kin G.me.kp (thn (q.run pos pins s1 σ H1 _ I1 qq) fun us s2 ⟨vs, H2, I2, r, q2⟩ => ⟨I2.kIn, ?_⟩) hst hpl
    exact run_fnG (E := WE W) (us := .ref a :: us) (vs := .ref a :: vs) F (hr.mono hk) hb (passAt tk σ) I2 (.cons rfl r) q2
  · refine ho ρ S io F σ H _ st en (RG.bind h fun d S1 io1 F1 H1 v e1 n1 s1 r1 h1 => ?_)
    by_cases hq : isO x f S1 (nv S1 d) = true
    · rw [if_pos hq] at h1
      obtain ⟨a, dx, fs, e2, e3, e4⟩ := s1.isO (s1.nv r1) hq
      refine ⟨a, dx, fs, e2, e3, e4, ?_⟩
      refine ha ρ S1 io1 F1 σ H1 _ s1 (en.nxt n1) (RG.bind h1 fun ds S2 io2 F2 H2 vs e5 n2 s2 r2 h2 => ?_)
      exact ⟨io2, F2, S2, d :: ds, s2, ⟨v, vs, rfl, r1.mono n2.han n2.fr, r2⟩, h2⟩
    · rw [if_neg hq] at h1; exact h1.elim
def isC (c : Str) (S : Sto) : Vl → Bool
  | .p (.obj c' _ _) => decide (c' = c)
  | .c k => (match S[k]? with
    | some (.ins c' _ _) => decide (c' = c)
    | _ => false)
  | _ => false
theorem Sta.isC {K : PySem.W.Frag} {io : Io} {F : Hp} {S : Sto} {H : Hp} {c : Str} {d : Vl} {v : V} (st : Sta K io F S H) (r : RepV K io F d v) (h : Mir.isC c S d = true) : ∃ a dx fs, v = .ref a ∧ H a = some (.ins (He.ga K c) dx fs) := by
  cases d with
  | p x =>
    cases x with
    | obj c' ns xs =>
      have h : decide (c' = c) = true := h
      rw [decide_eq_true_eq] at h
      subst h
      obtain ⟨a, dx, gs, rfl, ha, hg, hr⟩ := r
      exact ⟨a, dx, gs, rfl, st.sub _ _ ha⟩
    | _ => cases h
  | c k =>
    unfold Mir.isC at h
    dsimp only at h
    split at h
    · rename_i c' ns xs hk
      rw [decide_eq_true_eq] at h
      subst h
      obtain ⟨a, ha, rfl⟩ := r
      obtain ⟨b, dx, gs, hb, hF, hH, hg, hr, _⟩ := st.cel k _ hk
      rw [ha] at hb; cases hb
      exact ⟨a, dx, gs, rfl, hH⟩
    · cases h
def eProp (c : Str) (m : MF) (o : ME) : ME := fun ρ S => (o ρ S).bind fun d S1 => if isC c S1 (nv S1 d) then (m [d] S1).nox else .bad
end
end Mir

namespace Mir
open PySem L2
theorem repl_ints {K : PySem.W.Frag} {F : Hp} : ∀ ns : List Int, RepL K F (ns.map P.int) (ns.map V.int)
  | [] => .nil
  | _ :: ns => .cons rfl (repl_ints ns)
theorem law_callG {Pr : Program} {w : World} {K : PySem.W.Frag} {mg mb : Str → Option Value} {k : Nat} {fa a : Addr} {fd : FuncData} {x : Str} {m : MF} {s₁ : Shared} {vs : List Value} {ns : List Int} {S' : Sto}
    (KX : K.In s₁.heap) (hns : s₁.heap.Ns mainGlobals mg) (hb : s₁.heap.Ns builtinsNs mb) (hbb : ∀ x : Str, x ≠ "__name__" → mb x = bootBuiltins x) (hlim : s₁.heap.NoLimit) (hg : s₁.gens = #[])
    (ha : s₁.heap.get? a = some { cls := .type "list", data := .seq vs.toArray }) (hi : PyProof.Rows.IntsAre vs ns) (hl : ns.length ≤ sizeLine) (hr : RoomG k callerA)
    (F : ∀ base : Heap, K.In base → base.Ns mainGlobals mg → FnG Pr w K mg base k fa fd [x] (spM K m)) (hbind : ∀ (s : Shared) (u : Value), BindsTo s fd ⟨[u], []⟩ [(x, u)])
    (hm : m [.p (.scr (ns.map P.int))] [] = .ok (.p (.bl true)) S') :
    codeAny (model Pr w) callerA (.call (.ref fa) ⟨[.ref a], []⟩) (fun r s' => r = .ok (.ret (.bool true)) ∧ OldK s₁.heap s'.heap ∧ s'.os = s₁.os ∧ PyProof.Rows.AllBare s'.gens) s₁ := by
  have rv := vals_ints hi
  have lenV := hi.length
  have go : ∀ H : Hp, Only H → SqL K H a (ns.map V.int) → HOk Pr w H s₁.heap → (∀ b, H b ≠ none → b = a) → (H a ≠ none → K.lookup a = none) →
      codeAny (model Pr w) callerA (.call (.ref fa) ⟨[.ref a], []⟩) (fun r s' => r = .ok (.ret (.bool true)) ∧ OldK s₁.heap s'.heap ∧ s'.os = s₁.os ∧ PyProof.Rows.AllBare s'.gens) s₁ := by
    intro H hO hS hok hA hK
    have off : ∀ {b : Addr} {o : Obj}, s₁.heap.get? b = some o → (b = a → H b = none) → (hidT s₁.heap H).get? b = some o := fun {b o} e n => hidT_get e (by
      cases q : H b with
      | none => rfl
      | some u =>
        have z := n (hA b (by rw [q]; simp))
        rw [q] at z; cases z)
    have nsK : ∀ {b : Addr} {mm : Str → Option Value}, s₁.heap.Ns b mm → (hidT s₁.heap H).Ns b mm := fun {b mm} ⟨o, es, ep, e, d, r⟩ => ⟨o, es, ep, off e (fun z => by
      subst z
      rw [ha] at e; cases e
      exact nomatch (show Data.seq vs.toArray _ = Data.dict es ep from d)), d, r⟩
    have hKb : K.In (hidT s₁.heap H) := fun b o e => off (KX b o e) (fun z => by
      subst z
      cases q : H b with
      | none => rfl
      | some u => rw [hK (by rw [q]; simp)] at e; cases e)
    have e0 : Env0 Pr w K mg (hidT s₁.heap H) callerA [] s₁ H := ⟨rfl, ⟨hKb, nsK hns, ⟨mb, nsK hb, hbb⟩, let ⟨mc, h1, h2⟩ := hlim; ⟨mc, nsK h1, h2⟩⟩, fun b o e => of_hidT e, Nat.le_of_eq (hidT_size _ _), trivial, fun b hb => absurd (show b ∈ ([] : List Addr) from hb) (by simp), hok, .of_eq hg⟩
    have st : Sta K [] H [] H := ⟨rfl, fun j k a h => by simp at h, Same.refl _, fun k a h => by simp at h, fun k c h => by simp at h⟩
    have sp : spM K m [.ref a] H (fun v _ => v = .bl true) (fun _ _ _ => False) := by
      refine ⟨[], H, [], [.p (.scr (ns.map P.int))], st, ⟨_, [], rfl, ⟨a, ns.map V.int, rfl, hS, repl_ints ns⟩, rfl⟩, ?_⟩
      rw [hm]
      exact fun io' F' H' v _ _ r => r
    refine codeAny_mono ((F _ hKb (nsK hns)).run callerA [] s₁ H ⟨[.ref a], []⟩ [.ref a] [.ref a] _ _ hr e0 (hbind s₁ (.ref a)) (.cons rfl .nil) sp) fun r s' h => ?_
    match r, h with
    | .error e, ⟨_, _, _, _, _, _, _, _, _, _, _, _, z⟩ => exact z.elim
    | .ok .next, h => exact h.elim
    | .ok .brk, h => exact h.elim
    | .ok .cont, h => exact h.elim
    | .ok (.ret u), ⟨v, H', os, bare, un, hok', r', q⟩ =>
      have q : v = .bl true := q
      subst q
      obtain rfl : u = Value.bool true := r'
      refine ⟨rfl, OldK.of_keep fun b o e => ?_, os, bare⟩
      cases q : H b with
      | none => exact un.keep b o e q (by intro z; exact absurd (show b ∈ ([] : List Addr) from z) (by simp)) (by simp)
      | some u =>
        rcases hO b with z | ⟨ob, xs, z⟩
        · rw [q] at z; cases z
        · obtain ⟨e1, _⟩ := hok b _ z
          obtain ⟨e2, _⟩ := hok' b _ (un.frzs b ob _ z)
          rw [e] at e1; cases e1
          exact e2
  cases hk : K.lookup a with
  | some o =>
    have e := KX a o hk
    rw [ha] at e
    cases e
    exact go (fun _ => none) (fun _ => .inl rfl) (.inr ⟨_, vs.toArray, _, hk, rfl, rfl, rfl, by rw [List.size_toArray, lenV]; exact hl, by simpa using rv⟩) (fun b u z => nomatch (show (none : Option HO) = some u from z)) (fun b z => absurd rfl z) fun z => absurd rfl z
  | none =>
    obtain ⟨H0, hH0⟩ : ∃ H0 : Hp, H0 = fun b => if b = a then some (HO.frz { cls := .type "list", data := .seq vs.toArray } (.lst (ns.map V.int))) else none := ⟨_, rfl⟩
    have at1 : H0 a = some (HO.frz { cls := .type "list", data := .seq vs.toArray } (.lst (ns.map V.int))) := by rw [hH0]; exact if_pos rfl
    have at2 : ∀ b, b ≠ a → H0 b = none := fun b hb => by rw [hH0]; exact if_neg hb
    refine go H0 (fun b => ?_) (.inl (.inr ⟨_, at1⟩)) (fun b u z => ?_) (fun b z => ?_) fun _ => hk
    · by_cases hb : b = a
      · subst hb; exact .inr ⟨_, _, at1⟩
      · exact .inl (at2 b hb)
    · by_cases hb : b = a
      · subst hb
        rw [at1] at z
        cases z
        exact ⟨ha, by rw [List.length_map]; exact hl, vs, _, rv, ha⟩
      · rw [at2 b hb] at z; cases z
    · by_cases hb : b = a
      · exact hb
      · exact absurd (at2 b hb) z
theorem walkG {l : PySem.W.OpenLaw} {n k : Nat} {q : Program} {loose : List Str} {XP : (Str → Option Value) → Heap → Prop} {YP : World → Heap → Prop} {d : DefRec} {x : Str} {m : MF}
    (hn : l.most = some n) (hn2 : n ≤ sizeLine) (hdf : d.params.defaults = []) (hr : RoomG k callerA)
    (F : ∀ (w : World) (mg : Str → Option Value) (fa : Addr) (h : Heap), YP w h → h.Ns mainGlobals mg → mg d.name = some (.ref fa) →
      ∃ (K : PySem.W.Frag) (fd : FuncData), K.In h ∧ (∀ (s : Shared) (u : Value), BindsTo s fd ⟨[u], []⟩ [(x, u)]) ∧ ∀ base : Heap, K.In base → base.Ns mainGlobals mg → FnG l.prog w K mg base k fa fd [x] (spM K m))
    (hm : ∀ ns : List Int, ns.length ≤ n → ∃ S', m [.p (.scr (ns.map P.int))] [] = .ok (.p (.bl true)) S') :
    PySem.W.WalkO q loose XP YP l.row.toRowW d [] (fun f vs => PySem.call f vs) := by
  refine Att.attach_call hn hdf fun w s₀ s₁ mg mb fa o pm cd doc a vs ns G Y ho hd hcd hmg hobj hints hlen hg => ?_
  obtain ⟨K, fd, KX, hb, hF⟩ := F w mg fa _ Y G.T.g hmg
  obtain ⟨S', e⟩ := hm ns hlen
  exact law_callG KX G.T.g G.T.b G.T.builtins G.T.nolimit hg hobj hints (Nat.le_trans hlen hn2) hr hF hb e
structure DefM where
  ad : PySem.W.Frag → Addr
  name : Str
  qual : Str
  params : Arguments
  body : List Stmt
  scope : Scope
def fnM (K : PySem.W.Frag) (a : Addr) : He.FnW := match K.lookup a with
  | some ⟨_, _, .func fd, _⟩ => some (fd.name, fd.qualname, fd.params, fd.body, fd.scope, fd.globals, fd.closure, fd.builtins)
  | _ => none
def DefM.val (d : DefM) : He.FnW := some (d.name, d.qual, d.params, .stmts d.body, d.scope, mainGlobals, [], builtinsNs)
def DefM.ok (K : PySem.W.Frag) (d : DefM) : Bool := PySem.W.keepIn K (.ref (d.ad K)) && (match K.lookup (d.ad K) with
  | some ⟨_, _, .func fd, _⟩ => PySem.W.codeIn K fd.code d.qual && He.dflB K fd.defaults []
  | _ => false)
theorem DefM.funD {K : PySem.W.Frag} {d : DefM} (e : fnM K (d.ad K) = d.val) (c : d.ok K = true) : ∃ fd, FunD K d.name d.qual d.params d.body d.scope [] [] (d.ad K) fd := by
  unfold DefM.ok at c
  rw [Bool.and_eq_true] at c
  obtain ⟨hk, c⟩ := c
  unfold fnM at e
  cases q : K.lookup (d.ad K) with
  | none => rw [q] at c; cases c
  | some o =>
    obtain ⟨oc, od, dt, osl⟩ := o
    rw [q] at c e
    cases dt with
    | func fd =>
      obtain ⟨n1, n2, n3, n4, n5, n6, n7, n8, n9, n10, n11, n12, n13, n14, n15⟩ := fd
      have e2 : (some (n1, n2, n3, n4, n5, n6, n7, n15) : He.FnW) = some (d.name, d.qual, d.params, .stmts d.body, d.scope, mainGlobals, [], builtinsNs) := e
      simp only [Option.some.injEq, Prod.mk.injEq] at e2
      obtain ⟨h1, h2, h3, h4, h5, h6, h7, h9⟩ := e2
      subst h1 h2 h3 h4 h5 h6 h7 h9
      dsimp only at c
      rw [Bool.and_eq_true] at c
      exact ⟨_, ⟨oc, od, _, _, _, _, _, _, _, osl, rfl, q, c.1, He.dflB_ok c.2, .inl rfl⟩, hk⟩
    | _ => cases c
abbrev AlM : Type := Bool × List He.FnW
def obsM (ck : PySem.W.Frag → Bool) (fn : List DefM) (K : PySem.W.Frag) : AlM := (ck K && fn.all fun d => d.ok K, fn.map fun d => fnM K (d.ad K))
def valM (fn : List DefM) : AlM := (true, fn.map DefM.val)
def SaysM (ck : PySem.W.Frag → Bool) (fn : List DefM) (K : PySem.W.Frag) : Prop := obsM ck fn K = valM fn
def hasX (m a : Nat) : Bool := Nat.beq (Nat.land (Nat.shiftRight m a) 1) 1
def addX : List Addr → Nat → List Addr → List Addr × Nat
  | [], m, acc => (acc.reverse, m)
  | a :: l, m, acc => match hasX m a with
    | true => addX l m acc
    | false => addX l (Nat.lor m (Nat.shiftLeft 1 a)) (a :: acc)
def refsX (g : Addr → Option Obj) (a : Addr) : List Addr := match g a with
  | some o => He.refsD o
  | none => []
def bfsX (g : Addr → Option Obj) : Nat → List Addr → Nat → List Addr
  | 0, fr, _ => fr
  | n + 1, fr, m => match addX (fr.flatMap (refsX g)) m [] with
    | (nw, m2) => fr ++ bfsX g n nw m2
def asX (g : Addr → Option Obj) (n : Nat) : List Addr := bfsX g n [mainGlobals] (Nat.shiftLeft 1 mainGlobals)
section
variable {ck : PySem.W.Frag → Bool} {fn : List DefM} {K : PySem.W.Frag}
theorem SaysM.chk (c : SaysM ck fn K) : ck K = true := (He.ba (show (ck K && fn.all fun d => d.ok K) = true from congrArg (fun z : AlM => z.1) c)).1
theorem SaysM.def_ (c : SaysM ck fn K) (i : Nat) {d : DefM} (h : fn[i]? = some d := by rfl) : ∃ fd, FunD K d.name d.qual d.params d.body d.scope [] [] (d.ad K) fd := by
  have c2 := (He.ba (show (ck K && fn.all fun d => d.ok K) = true from congrArg (fun z : AlM => z.1) c)).2
  have e : fn.map (fun d => fnM K (d.ad K)) = fn.map DefM.val := congrArg (fun z : AlM => z.2) c
  have e2 : (fn.map fun d => fnM K (d.ad K))[i]? = (fn.map DefM.val)[i]? := by rw [e]
  rw [List.getElem?_map, List.getElem?_map, h] at e2
  exact DefM.funD (Option.some.inj e2) (List.all_eq_true.mp c2 d (List.mem_of_getElem? h))
end
def pa (K : PySem.W.Frag) (C f : Str) : Addr := He.ma K (He.ga K C) f
def pg (K : PySem.W.Frag) (C f : Str) : Addr := match PySem.W.recIn K (pa K C f) "property" with
  | some (.ref g :: _) => g
  | _ => 0
inductive Tg where
  | b (n : String) | o (c : Str)
def tgOf (S : Sto) : Vl → Option Tg
  | .p .non => some (.b "NoneType")
  | .p (.bl _) => some (.b "bool")
  | .p (.int _) => some (.b "int")
  | .p (.str _) => some (.b "str")
  | .p (.tup _) => some (.b "tuple")
  | .p (.lst _) => some (.b "list")
  | .p (.dct _ _) => some (.b "dict")
  | .p (.obj c _ _) => some (.o c)
  | .c k => (match S[k]? with
    | some (.lst _) => some (.b "list")
    | some (.lsv _) => some (.b "list")
    | some (.dct _ _) => some (.b "dict")
    | some (.ins c _ _) => some (.o c)
    | _ => none)
  | _ => none
def comTy : List String := ["NoneType", "bool", "int", "str", "tuple", "list", "dict"]
def isB (a n : String) : Option Bool := if a = n ∧ a ∈ comTy then some true else if a = "bool" ∧ n = "int" then some true else if a ∈ comTy ∧ n ∈ comTy ∧ a ≠ n then some false else none
theorem isB_ok {K : PySem.W.Frag} {a n : String} {b : Bool} (h : isB a n = some b) : PySem.W.kitOne K (.type a) (.type n) = some b := by
  refine kit_ty ?_
  unfold isB at h
  have key : ∀ a ∈ comTy, ∀ n ∈ comTy, kitB a n = some (a == n || (a == "bool" && n == "int")) := by decide +kernel
  split at h
  · rename_i q
    cases h
    rw [key a q.2 n (by rw [← q.1]; exact q.2), q.1]
    simp
  · split at h
    · rename_i q
      cases h
      rw [q.1, q.2]
      decide +kernel
    · rename_i q1 q2
      split at h
      · rename_i q
        cases h
        rw [key a q.1 n q.2.1]
        have : (a == n) = false := beq_eq_false_iff_ne.mpr q.2.2
        rw [this]
        have : (a == "bool" && n == "int") = false := by
          rw [Bool.eq_false_iff]
          intro z
          rw [Bool.and_eq_true, beq_iff_eq, beq_iff_eq] at z
          exact q2 z
        rw [this]
        rfl
      · cases h
structure IsiC (K : PySem.W.Frag) (cs : List Str) : Prop where
  cls : ∀ c ∈ cs, Cls K (He.ga K c) ∧ PySem.W.findIn K (.ref (He.ga K c)) "__class__" = some (some (.builtin "object.__class__")) ∧ PySem.W.specialIn K (.builtin "object.__class__") "__get__" = some (some (.builtin "getset_descriptor.__get__")) ∧
    PySem.W.takesIn K (.builtin "object.__class__") = some true ∧ PySem.W.mroIn K (He.ga K c) (.type "object") = some true
  up : ∀ c ∈ cs, ∀ n ∈ comTy, PySem.W.kitOne K (.ref (He.ga K c)) (.type n) = some false
  dn : ∀ c ∈ cs, ∀ n ∈ comTy, PySem.W.kitOne K (.type n) (.ref (He.ga K c)) = some false
  ne : ∀ c ∈ cs, ∀ d ∈ cs, c ≠ d → PySem.W.kitOne K (.ref (He.ga K c)) (.ref (He.ga K d)) = some false
def isiB (K : PySem.W.Frag) (cs : List Str) : Bool := (cs.all fun c => (He.Fa.cls c).ok K && (He.eqO (PySem.W.findIn K (.ref (He.ga K c)) "__class__") (some (some (.builtin "object.__class__"))) && (He.eqO (PySem.W.specialIn K (.builtin "object.__class__") "__get__") (some (some (.builtin "getset_descriptor.__get__"))) &&
    (decide (PySem.W.takesIn K (.builtin "object.__class__") = some true) && decide (PySem.W.mroIn K (He.ga K c) (.type "object") = some true))))) &&
  ((cs.all fun c => comTy.all fun n => decide (PySem.W.kitOne K (.ref (He.ga K c)) (.type n) = some false)) && ((cs.all fun c => comTy.all fun n => decide (PySem.W.kitOne K (.type n) (.ref (He.ga K c)) = some false)) &&
    (cs.all fun c => cs.all fun d => decide (c = d) || decide (PySem.W.kitOne K (.ref (He.ga K c)) (.ref (He.ga K d)) = some false))))
theorem isiB_ok {K : PySem.W.Frag} {cs : List Str} (h : isiB K cs = true) : IsiC K cs := by
  unfold isiB at h
  obtain ⟨h1, h⟩ := He.ba h
  obtain ⟨h2, h⟩ := He.ba h
  obtain ⟨h3, h4⟩ := He.ba h
  rw [List.all_eq_true] at h1 h2 h3 h4
  refine ⟨fun c hc => ?_, fun c hc n hn => ?_, fun c hc n hn => ?_, fun c hc d hd ne => ?_⟩
  · obtain ⟨a, h⟩ := He.ba (h1 c hc)
    obtain ⟨b, h⟩ := He.ba h
    obtain ⟨c', h⟩ := He.ba h
    obtain ⟨d, e⟩ := He.ba h
    exact ⟨He.cls_ok a, He.eqO_ok b, He.eqO_ok c', of_decide_eq_true d, of_decide_eq_true e⟩
  · exact of_decide_eq_true (List.all_eq_true.mp (h2 c hc) n hn)
  · exact of_decide_eq_true (List.all_eq_true.mp (h3 c hc) n hn)
  · have z := List.all_eq_true.mp (h4 c hc) d hd
    rw [Bool.or_eq_true, decide_eq_true_eq, decide_eq_true_eq] at z
    rcases z with z | z
    · exact absurd z ne
    · exact z
def isT (cs : List Str) : Tg → P → Option Bool
  | .b a, .ty n => isB a n
  | .o c, .ty n => if c ∈ cs ∧ n ∈ comTy then some false else none
  | .b a, .glo x => if x ∈ cs ∧ a ∈ comTy then some false else none
  | .o c, .glo x => if c ∈ cs ∧ x ∈ cs then some (decide (c = x)) else none
  | _, _ => none
def eIsi (cs : List Str) (a b : ME) : ME := fun ρ S => (a ρ S).bind fun d S1 => (b ρ S1).bind fun q S2 => match tgOf S2 (nv S2 d), q with
  | some t, .p y => (match isT cs t y with
    | some r => .ok (.p (.bl r)) S2
    | none => .bad)
  | _, _ => .bad
def tgV (K : PySem.W.Frag) : Tg → Value
  | .b n => .type n
  | .o c => .ref (He.ga K c)
theorem Sta.tyx {K : PySem.W.Frag} {io : Io} {F : Hp} {S : Sto} {H : Hp} {cs : List Str} {d : Vl} {v : V} {t : Tg} (st : Sta K io F S H) (I : IsiC K cs) (r : RepV K io F d v) (h : tgOf S d = some t) (hc : ∀ c, t = .o c → c ∈ cs) : TyX K H v (tgV K t) := by
  have sq : ∀ {a : Addr} {vs : List V}, SqT K H a vs → TyX K H (.ref a) (.type "tuple") := fun {a vs} q => by
    rcases q with q | ⟨o, its, n, h1, h2, _⟩
    · rcases q with q | ⟨ob, q⟩
      · exact .base (.tup q)
      · exact .fTuple q
    · exact .kTuple h1 h2
  have ob : ∀ {a dx : Addr} {gs : List (Str × V)} {c : Str}, t = .o c → H a = some (.ins (He.ga K c) dx gs) → TyX K H (.ref a) (.ref (He.ga K c)) := fun {a dx gs c} e q => by
    obtain ⟨h1, h2, h3, h4, h5⟩ := I.cls c (hc c e)
    exact .base (.ins q h1 h2 h3 h4 h5)
  cases d with
  | p x =>
    cases x with
    | non => cases h; have r : v = _ := r; subst r; exact .base .non
    | bl y => cases h; have r : v = _ := r; subst r; exact .base (.bl _)
    | int y => cases h; have r : v = _ := r; subst r; exact .base (.int _)
    | str y => cases h; have r : v = _ := r; subst r; exact .base (.str _)
    | tup y => cases h; obtain ⟨a, vs, rfl, h1, _⟩ := r; exact sq (sqt_mono st.sub h1)
    | lst y => cases h; obtain ⟨a, vs, rfl, h1, _⟩ := r; exact .base (.lst (st.sub _ _ h1))
    | dct y z => cases h; obtain ⟨a, vs, rfl, h1, _⟩ := r; exact .base (.dK (st.sub _ _ h1))
    | obj c ns xs => cases h; obtain ⟨a, dx, gs, rfl, h1, _⟩ := r; exact ob rfl (st.sub _ _ h1)
    | ty _ => cases h
    | glo _ => cases h
    | raw _ => cases h
    | rwp _ _ => cases h
    | scr _ => cases h
  | c k =>
    unfold tgOf at h
    dsimp only at h
    obtain ⟨a, ha, rfl⟩ := r
    cases hk : S[k]? with
    | none => rw [hk] at h; cases h
    | some cc =>
      rw [hk] at h
      cases cc with
      | lst xs =>
        cases h
        obtain ⟨b, vs, hb, _, hH, _⟩ := st.cel k _ hk
        rw [ha] at hb; cases hb
        exact .base (.lst hH)
      | lsv xs =>
        cases h
        obtain ⟨b, vs, hb, _, hH, _⟩ := st.cel k _ hk
        rw [ha] at hb; cases hb
        exact .base (.lst hH)
      | dct ks xs =>
        cases h
        obtain ⟨b, vs, hb, _, hH, _⟩ := st.cel k _ hk
        rw [ha] at hb; cases hb
        exact .base (.dK hH)
      | ins c ns xs =>
        cases h
        obtain ⟨b, dx, gs, hb, _, hH, _⟩ := st.cel k _ hk
        rw [ha] at hb; cases hb
        exact ob rfl hH
      | fz _ => cases h
      | res => cases h
      | tup _ => cases h
      | dcT _ _ => cases h
      | dcN _ _ _ => cases h
      | tbl _ _ => cases h
      | dvs _ => cases h
      | tblC _ _ _ => cases h
      | tpz _ => cases h
section
variable {X : Cx} {W : WX} {a b e o : Expr} {ma mb mo : ME} {pos p : Pos}
theorem oe_isi {cs : List Str} (I : IsiC X.K cs) (hm : X.mg "isinstance" = none) (ha : OE X W a ma) (hb : OE X W b mb) (hg : Gl X "isinstance" := by rfl)
    (hs : starEach [a, b] X.env = (false, eval a X.env) :: starEach [b] X.env := by rfl) (hs2 : starEach [b] X.env = (false, eval b X.env) :: starEach [] X.env := by rfl) (hplain : (backTo pos (starEach [b] X.env)).any (·.1) = false := by rfl) :
    OE X W (.Call (.Name "isinstance" p) [a, b] [] pos) (eIsi cs ma mb) := by
  obtain ⟨t, q, ha⟩ := ha
  obtain ⟨u, q2, hb⟩ := hb
  refine ⟨_, pe_callB call_isi hg hm (by first | rfl | decide +kernel) (pa_cons q (pa_cons q2 pa_nil hs2) hs) (by decide) (by decide) hs hplain, fun ρ S io F σ H Q st en h => ?_⟩
  refine ha ρ S io F σ H _ st en (RG.bind h fun d S1 io1 F1 H1 v e1 n1 s1 r1 h1 => ?_)
  refine hb ρ S1 io1 F1 σ H1 _ s1 (en.nxt n1) (RG.bind h1 fun d2 S2 io2 F2 H2 v2 e2 n2 s2 r2 h2 => ?_)
  replace r1 := s2.nv (r1.mono n2.han n2.fr)
  generalize nv S2 d = d at r1 h2
  split at h2
  · rename_i t y ht
    cases hr : isT cs t y with
    | none => rw [hr] at h2; exact h2.elim
    | some r =>
      rw [hr] at h2
      have fin : Q (.bl r) H2 := h2 io2 F2 H2 (.bl r) Nxt.refl s2 rfl
      cases t with
      | b nm =>
        cases y with
        | ty n =>
          have r2 : v2 = _ := r2
          subst r2
          exact ⟨v, .ty n, _, _, r, rfl, .ty n, s2.tyx I r1 ht (fun c z => nomatch z), isB_ok hr, fin⟩
        | glo x =>
          have r2 : v2 = _ := r2
          subst r2
          have hr : (if x ∈ cs ∧ nm ∈ comTy then some false else none) = some r := hr
          split at hr
          · rename_i z
            cases hr
            exact ⟨v, .ref _, _, _, false, rfl, .own _, s2.tyx I r1 ht (fun c z => nomatch z), I.dn x z.1 nm z.2, fin⟩
          · cases hr
        | _ => cases hr
      | o c =>
        cases y with
        | ty n =>
          have r2 : v2 = _ := r2
          subst r2
          have hr : (if c ∈ cs ∧ n ∈ comTy then some false else none) = some r := hr
          split at hr
          · rename_i z
            cases hr
            exact ⟨v, .ty n, _, _, false, rfl, .ty n, s2.tyx I r1 ht (fun c' e => by cases e; exact z.1), I.up c z.1 n z.2, fin⟩
          · cases hr
        | glo x =>
          have r2 : v2 = _ := r2
          subst r2
          have hr : (if c ∈ cs ∧ x ∈ cs then some (decide (c = x)) else none) = some r := hr
          split at hr
          · rename_i z
            cases hr
            refine ⟨v, .ref _, _, _, _, rfl, .own _, s2.tyx I r1 ht (fun c' e => by cases e; exact z.1), ?_, fin⟩
            by_cases q : c = x
            · subst q
              rw [decide_eq_true rfl]
              show (if (Value.ref (He.ga X.K c) == Value.ref (He.ga X.K c)) = true then some true else _) = _
              rw [if_pos (by simp)]
            · rw [decide_eq_false q]
              exact I.ne c z.1 x z.2 q
          · cases hr
        | _ => cases hr
  · exact h2.elim
end
end Mir

namespace Mir
open PySem L2
def reprP (x : P) : List Nat := x.toD.shown.cps.toList
def pRepr : List P → Option P
  | [.lst xs] => if (P.lst xs).dat 60 && (P.lst xs).toD.showable && decide ((reprP (.lst xs)).length ≤ 100000) then some (.str (reprP (.lst xs))) else none
  | [.tup xs] => if (P.tup xs).dat 60 && (P.tup xs).toD.showable && decide ((reprP (.tup xs)).length ≤ 100000) then some (.str (reprP (.tup xs))) else none
  | _ => none
def rReprD (K : PySem.W.Frag) : List V → Hp → VK → Prop := fun xs H Q => ∃ a d, xs = [.ref a] ∧ Dp K H (.ref a) d ∧ d.showable = true ∧ d.hasDict = false ∧ d.shown.length ≤ sizeLine ∧ d.depth ≤ 64 ∧ Q (.str d.shown) H
section
variable {X : Cx} {W : WX} {a b e o : Expr} {ma mb mo : ME} {pos p : Pos} {k : Nat}
theorem call_reprD (hr : RoomG k X.A) : CallR X (.builtin "repr") (rReprD X.K) := by
  intro pins s σ H xs us Q I r h
  obtain ⟨a, d, rfl, dp, hs, hd, hz, hdep, q⟩ := h
  obtain ⟨u, rfl, ru⟩ := r.one
  obtain ⟨as, rd⟩ := Dp.reads I d (.ref a) u dp ru
  obtain rfl : u = Value.ref a := ru
  refine repr_of_reads' rd hs (PyData.noDict_hsm hd) hr.gd ?_ (fun _ _ e => e) (fun h' u tk hk => ⟨.str d.shown, H, I.kept hk, ⟨_, rfl⟩, q⟩) hz
  have := hr.r.un
  omega
mutual
theorem P.noDict : ∀ {x : P}, x.toD.hasDict = false
  | .non => rfl
  | .bl _ => rfl
  | .int _ => rfl
  | .str _ => rfl
  | .lst xs => noDictL (xs := xs)
  | .tup xs => noDictL (xs := xs)
  | .dct _ _ => rfl
  | .obj _ _ _ => rfl
  | .ty _ => rfl
  | .glo _ => rfl
  | .raw _ => rfl
  | .rwp _ _ => rfl
  | .scr _ => rfl
theorem noDictL : ∀ {xs : List P}, PyData.hasDictAll (toDL xs) = false
  | [] => rfl
  | x :: xs => by
    show (x.toD.hasDict || PyData.hasDictAll (toDL xs)) = false
    rw [P.noDict, noDictL]
    rfl
end
theorem ok_repr {K : PySem.W.Frag} : CallOk K (rReprD K) pRepr := by
  intro io F S H xs vs z Q st rx e k
  have go : ∀ x : P, (∃ a, ∀ v, RepR K F H x v → v = .ref a → True) → True := fun _ _ => trivial
  have key : ∀ (x : P) (v : V) (a : Addr), v = .ref a → RepR K F H x v → (x.dat 60 && x.toD.showable && decide ((reprP x).length ≤ 100000)) = true → z = .str (reprP x) → rReprD K [v] H Q := by
    rintro x v a rfl r hd rfl
    rw [Bool.and_eq_true, Bool.and_eq_true, decide_eq_true_eq] at hd
    refine ⟨a, x.toD, rfl, Rep.dp hd.1.1 (r.now st.sub), hd.1.2, P.noDict, ?_, Nat.le_trans (P.dep hd.1.1) (by decide), ?_⟩
    · have h2 : (reprP x).length ≤ 100000 := hd.2
      have h3 : (reprP x).length = x.toD.shown.length := by
        unfold reprP
        rw [Array.length_toList]
        rfl
      rw [← h3]; exact sz5 h2
    · have := k F H (.str (strOf (reprP x))) Nxt.refl st rfl
      unfold reprP at this
      rw [strOf_toList] at this
      exact this
  unfold pRepr at e
  split at e
  · rename_i xs
    split at e
    · rename_i hd
      cases e
      obtain ⟨v, rfl, r⟩ := rx.one
      obtain ⟨a, vs, e1, h1, h2⟩ := r
      exact key (.lst xs) v a e1 ⟨a, vs, e1, h1, h2⟩ hd rfl
    · cases e
  · rename_i xs
    split at e
    · rename_i hd
      cases e
      obtain ⟨v, rfl, r⟩ := rx.one
      obtain ⟨a, vs, e1, h1, h2⟩ := r
      exact key (.tup xs) v a e1 ⟨a, vs, e1, h1, h2⟩ hd rfl
    · cases e
  · cases e
theorem oe_repr (hr : RoomG k X.A) (hm : X.mg "repr" = none) (ha : OE X W a ma) (hg : Gl X "repr" := by rfl) (hs : starEach [a] X.env = (false, eval a X.env) :: starEach [] X.env := by rfl) :
    OE X W (.Call (.Name "repr" p) [a] [] pos) (eCall pRepr (aCons ma aNil)) := oe_callB (call_reprD hr) ok_repr hm (by first | rfl | decide +kernel) (oa_cons ha oa_nil hs) hg (by decide) (by decide) hs rfl
end
def kOf : P → Option Key
  | .int i => some (.inl i)
  | .str x => some (.inr (strOf x))
  | _ => none
def keq : P → P → Bool
  | .int i, .int j => i == j
  | .str x, .str y => x == y
  | _, _ => false
def dRep (k v : P) : List P → List P → List P
  | a :: ks, b :: vs => (if keq a k then v else b) :: dRep k v ks vs
  | _, _ => []
def dPutK (k : P) (ks : List P) : List P := if ks.any fun a => keq a k then ks else ks ++ [k]
def dPutV (k v : P) (ks vs : List P) : List P := if ks.any fun a => keq a k then dRep k v ks vs else vs ++ [v]
section
variable {K : PySem.W.Frag} {F : Hp}
theorem keq_dec {a k : P} {q kk : Key} (r : Rep K F a (kV q)) (h : kOf k = some kk) : keq a k = decide (q = kk) := by
  cases k with
  | int j =>
    cases h
    cases q with
    | inl i =>
      cases a with
      | int l =>
        have r : V.int i = V.int l := r
        cases r
        show (i == j) = _
        rw [Bool.eq_iff_iff]; simp
      | tup _ => obtain ⟨_, _, e, _⟩ := r; cases e
      | lst _ => obtain ⟨_, _, e, _⟩ := r; cases e
      | scr _ => obtain ⟨_, _, e, _⟩ := r; cases e
      | dct _ _ => obtain ⟨_, _, e, _⟩ := r; cases e
      | obj _ _ _ => obtain ⟨_, _, _, e, _⟩ := r; cases e
      | rwp _ _ => obtain ⟨_, _, _, e, _⟩ := r; cases e
      | _ => cases r
    | inr x =>
      cases a with
      | int l => cases r
      | str y => rfl
      | tup _ => obtain ⟨_, _, e, _⟩ := r; cases e
      | lst _ => obtain ⟨_, _, e, _⟩ := r; cases e
      | scr _ => obtain ⟨_, _, e, _⟩ := r; cases e
      | dct _ _ => obtain ⟨_, _, e, _⟩ := r; cases e
      | obj _ _ _ => obtain ⟨_, _, _, e, _⟩ := r; cases e
      | rwp _ _ => obtain ⟨_, _, _, e, _⟩ := r; cases e
      | _ => cases r
  | str y =>
    cases h
    cases q with
    | inl i =>
      cases a with
      | int l => rfl
      | tup _ => obtain ⟨_, _, e, _⟩ := r; cases e
      | lst _ => obtain ⟨_, _, e, _⟩ := r; cases e
      | scr _ => obtain ⟨_, _, e, _⟩ := r; cases e
      | dct _ _ => obtain ⟨_, _, e, _⟩ := r; cases e
      | obj _ _ _ => obtain ⟨_, _, _, e, _⟩ := r; cases e
      | rwp _ _ => obtain ⟨_, _, _, e, _⟩ := r; cases e
      | _ => cases r
    | inr x =>
      cases a with
      | str z =>
        have r : V.str x = V.str (strOf z) := r
        cases r
        show (z == y) = decide (Sum.inr (strOf z) = Sum.inr (strOf y))
        rw [← strOf_beq, Bool.eq_iff_iff]; simp
      | tup _ => obtain ⟨_, _, e, _⟩ := r; cases e
      | lst _ => obtain ⟨_, _, e, _⟩ := r; cases e
      | scr _ => obtain ⟨_, _, e, _⟩ := r; cases e
      | dct _ _ => obtain ⟨_, _, e, _⟩ := r; cases e
      | obj _ _ _ => obtain ⟨_, _, _, e, _⟩ := r; cases e
      | rwp _ _ => obtain ⟨_, _, _, e, _⟩ := r; cases e
      | _ => cases r
  | _ => cases h
theorem kOf_rep {k : P} {kk : Key} (h : kOf k = some kk) : Rep K F k (kV kk) := by
  cases k <;> cases h <;> rfl
theorem rep_kOf {k : P} {kk : Key} {v : V} (h : kOf k = some kk) (r : Rep K F k v) : v = kV kk := by
  cases k with
  | int i => cases h; exact r
  | str x => cases h; exact r
  | _ => cases h
theorem any_keq {k : P} {kk : Key} (h : kOf k = some kk) : ∀ {ks : List P} {kvs : List (Key × V)}, RepL K F ks (kvs.map fun q => kV q.1) → (ks.any fun a => keq a k) = kvs.any fun kv => decide (kv.1 = kk)
  | [], [], r => rfl
  | [], _ :: _, r => by cases r
  | _ :: _, [], ⟨_, _, e, _⟩ => by cases e
  | a :: ks, q :: kvs, ⟨v, r, e, r1, r2⟩ => by
    cases e
    show (keq a k || ks.any fun a => keq a k) = (decide (q.1 = kk) || kvs.any fun kv => decide (kv.1 = kk))
    rw [keq_dec r1 h, any_keq h r2]
theorem dRep_rep {k x : P} {kk : Key} {v : V} (h : kOf k = some kk) (rv : Rep K F x v) : ∀ {ks xs : List P} {kvs : List (Key × V)}, RepL K F ks (kvs.map fun q => kV q.1) → RepL K F xs (kvs.map (·.2)) →
    RepL K F ks ((kvs.map fun kv => if kv.1 = kk then (kv.1, v) else kv).map fun q => kV q.1) ∧ RepL K F (dRep k x ks xs) ((kvs.map fun kv => if kv.1 = kk then (kv.1, v) else kv).map (·.2))
  | [], xs, [], r, s => ⟨.nil, by cases xs <;> exact .nil⟩
  | [], _, _ :: _, r, _ => by cases r
  | _ :: _, _, [], ⟨_, _, e, _⟩, _ => by cases e
  | a :: ks, [], q :: kvs, r, s => by cases s
  | a :: ks, b :: xs, q :: kvs, ⟨v1, r, e, r1, r2⟩, ⟨v2, s, e2, s1, s2⟩ => by
    cases e; cases e2
    obtain ⟨i1, i2⟩ := dRep_rep h rv r2 s2
    rw [List.map_cons, List.map_cons, List.map_cons]
    by_cases hq : q.1 = kk
    · rw [if_pos hq]
      refine ⟨⟨_, _, rfl, r1, i1⟩, ?_⟩
      show RepL K F ((if keq a k then x else b) :: dRep k x ks xs) _
      rw [keq_dec r1 h, decide_eq_true hq]
      exact ⟨_, _, rfl, rv, i2⟩
    · rw [if_neg hq]
      refine ⟨⟨_, _, rfl, r1, i1⟩, ?_⟩
      show RepL K F ((if keq a k then x else b) :: dRep k x ks xs) _
      rw [keq_dec r1 h, decide_eq_false hq]
      exact ⟨_, _, rfl, s1, i2⟩
theorem dPut_rep {k x : P} {kk : Key} {v : V} (h : kOf k = some kk) (rv : Rep K F x v) {ks xs : List P} {kvs : List (Key × V)} (r : RepL K F ks (kvs.map fun q => kV q.1)) (s : RepL K F xs (kvs.map (·.2))) :
    RepL K F (dPutK k ks) ((putK kvs kk v).map fun q => kV q.1) ∧ RepL K F (dPutV k x ks xs) ((putK kvs kk v).map (·.2)) := by
  unfold dPutK dPutV putK
  rw [any_keq h r]
  cases q : kvs.any fun kv => decide (kv.1 = kk) with
  | true => exact dRep_rep h rv r s
  | false =>
    rw [if_neg (by decide), if_neg (by decide), if_neg (by decide)]
    rw [List.map_append, List.map_append]
    exact ⟨r.append (.cons (kOf_rep h) .nil), s.append (.cons rv .nil)⟩
end
def mergeP : List P → List P → List P → Option (List P × List P)
  | [], ks, vs => some (ks, vs)
  | .tup [k, v] :: r, ks, vs => (match kOf k with
    | some _ => mergeP r (dPutK k ks) (dPutV k v ks vs)
    | none => none)
  | _, _, _ => none
def pDictP : List P → Option P
  | [.lst xs] => (mergeP xs [] []).map fun q => .dct q.1 q.2
  | _ => none
section
variable {K : PySem.W.Frag} {io : Io} {F : Hp} {S : Sto} {H : Hp}
theorem mergeP_rep (st : Same F H) : ∀ {rows ks vs ks' vs' : List P} {rv : List V} {kvs : List (Key × V)}, mergeP rows ks vs = some (ks', vs') → RepL K F rows rv → RepL K F ks (kvs.map fun q => kV q.1) → RepL K F vs (kvs.map (·.2)) →
    ∃ (ps : List Addr) (more : List (Key × V)), rv = ps.map V.ref ∧ Paired (fun p kv => SqT K H p [kV kv.1, kv.2]) ps more ∧ RepL K F ks' ((mergeK kvs more).map fun q => kV q.1) ∧ RepL K F vs' ((mergeK kvs more).map (·.2))
  | [], ks, vs, ks', vs', rv, kvs, e, r, r1, r2 => by
    cases e
    have r : _ = _ := r
    subst r
    exact ⟨[], [], rfl, .nil, r1, r2⟩
  | x :: rows, ks, vs, ks', vs', rv, kvs, e, ⟨v, r', e1, rx, rr⟩, r1, r2 => by
    subst e1
    match x, rx, e with
    | .tup [k, y], rx, e =>
      have e : (match kOf k with
        | some _ => mergeP rows (dPutK k ks) (dPutV k y ks vs)
        | none => none) = some (ks', vs') := e
      cases hk : kOf k with
      | none => rw [hk] at e; cases e
      | some kk =>
        rw [hk] at e
        obtain ⟨a, ws, rfl, ha, ⟨w1, t1, ew, q1, ⟨w2, t2, ew2, q2, q3⟩⟩⟩ := rx
        have q3 : t2 = [] := q3
        subst q3; subst ew2; subst ew
        have := rep_kOf hk q1
        subst this
        obtain ⟨i1, i2⟩ := dPut_rep hk q2 r1 r2
        obtain ⟨ps, more, e2, hp, j1, j2⟩ := mergeP_rep st e rr i1 i2
        exact ⟨a :: ps, (kk, w2) :: more, by rw [e2]; rfl, .cons (sqt_mono st ha) hp, j1, j2⟩
    | .tup [], _, e => cases e
    | .tup [_], _, e => cases e
    | .tup (_ :: _ :: _ :: _), _, e => cases e
    | .non, _, e => cases e
    | .bl _, _, e => cases e
    | .int _, _, e => cases e
    | .str _, _, e => cases e
    | .lst _, _, e => cases e
    | .dct _ _, _, e => cases e
    | .obj _ _ _, _, e => cases e
    | .ty _, _, e => cases e
    | .glo _, _, e => cases e
    | .raw _, _, e => cases e
    | .rwp _ _, _, e => cases e
    | .scr _, _, e => cases e
theorem ok_dictP : CallOk K (fun xs H Q => ∃ (a : Addr) (ps : List Addr) (kvs : List (Key × V)), xs = [.ref a] ∧ SqL K H a (ps.map V.ref) ∧ Paired (fun p kv => SqT K H p [kV kv.1, kv.2]) ps kvs ∧
    ∀ p, H p = none → Q (.ref p) (upd H p (.dK (mergeK [] kvs)))) pDictP := by
  intro io F S H xs vs z Q st rx e k
  unfold pDictP at e
  split at e
  · rename_i rows
    cases hm : mergeP rows [] [] with
    | none => rw [hm] at e; cases e
    | some q =>
      rw [hm] at e
      cases e
      obtain ⟨v, rfl, r⟩ := rx.one
      obtain ⟨a, rv, rfl, h1, h2⟩ := r
      obtain ⟨ps, more, e2, hp, j1, j2⟩ := mergeP_rep (kvs := []) st.sub hm h2 .nil .nil
      subst e2
      refine ⟨a, ps, more, rfl, SqL.of h1, hp, fun p hp => ?_⟩
      obtain ⟨s3, n3⟩ := st.froze (o := .dK (mergeK [] more)) hp
      exact k _ _ _ n3 s3 ⟨p, _, rfl, upd_same, RepL.mono n3.fr j1, RepL.mono n3.fr j2⟩
  · cases e
end
section
variable {X : Cx} {W : WX} {a b e o : Expr} {ma mb mo : ME} {pos p : Pos} {k : Nat}
theorem oe_dictP (hc : X.calm = true) (hm : X.mg "dict" = none) (ha : OE X W a ma) (hg : Gl X "dict" := by rfl) (hs : starEach [a] X.env = (false, eval a X.env) :: starEach [] X.env := by rfl) :
    OE X W (.Call (.Name "dict" p) [a] [] pos) (eCall pDictP (aCons ma aNil)) := oe_callTy (call_dictP hc) ok_dictP hm (by first | rfl | decide +kernel) (oa_cons ha oa_nil hs) hg (by decide) (by decide) hs rfl
end
end Mir

namespace Mir
open PySem L2
def rwpB (y z : List Nat) : List Value → Bool
  | [.str x t, .str w u] => decide (strOf y = x) && (decide (strOf z = w) && (decide (t ≠ 0) && (decide (u ≠ 0) && (decide (t ≠ u) && !(strOf y == strOf z)))))
  | _ => false
theorem rwpB_ok {y z : List Nat} : ∀ {l : List Value}, rwpB y z l = true → ∃ t u, l = [.str (strOf y) t, .str (strOf z) u] ∧ t ≠ 0 ∧ u ≠ 0 ∧ t ≠ u ∧ (strOf y == strOf z) = false
  | [.str x t, .str w u], h => by
    obtain ⟨h1, h⟩ := He.ba (show (decide (strOf y = x) && (decide (strOf z = w) && (decide (t ≠ 0) && (decide (u ≠ 0) && (decide (t ≠ u) && !(strOf y == strOf z)))))) = true from h)
    obtain ⟨h2, h⟩ := He.ba h
    obtain ⟨h3, h⟩ := He.ba h
    obtain ⟨h4, h⟩ := He.ba h
    obtain ⟨h5, h6⟩ := He.ba h
    have h1 := of_decide_eq_true h1
    have h2 := of_decide_eq_true h2
    subst h1 h2
    refine ⟨t, u, rfl, of_decide_eq_true h3, of_decide_eq_true h4, of_decide_eq_true h5, ?_⟩
    cases q : strOf y == strOf z with
    | false => rfl
    | true => rw [q] at h6; cases h6
mutual
def repK (K : PySem.W.Frag) : P → Value → Bool
  | .non, .none => true
  | .bl b, .bool c => b == c
  | .int i, .int j _ => decide (i = j)
  | .str x, .str y _ => decide (strOf x = y)
  | .ty n, .type m => decide (n = m)
  | .glo x, .ref a => decide (He.ga K x = a)
  | .tup xs, .ref a => (match K.lookup a with
    | some ⟨.type c, _, .seq its _, _⟩ => decide (c = "tuple") && (decide (its.size ≤ sizeLine) && repKs K xs its.toList)
    | _ => false)
  | .rwp y z, .ref a => (match K.lookup a with
    | some ⟨.type c, _, .seq its _, _⟩ => decide (c = "tuple") && rwpB y z its.toList
    | _ => false)
  | _, _ => false
def repKs (K : PySem.W.Frag) : List P → List Value → Bool
  | [], [] => true
  | x :: xs, u :: us => repK K x u && repKs K xs us
  | _, _ => false
end
section
variable {K : PySem.W.Frag}
mutual
theorem repK_ok : ∀ {x : P} {u : Value}, repK K x u = true → ∃ v, RelV v u ∧ ∀ F, Rep K F x v
  | .non, u, h => by
    cases u <;> first | exact ⟨.non, rfl, fun _ => rfl⟩ | cases h
  | .bl b, u, h => by
    cases u with
    | bool c =>
      have h : (b == c) = true := h
      rw [beq_iff_eq] at h
      subst h
      exact ⟨.bl b, rfl, fun _ => rfl⟩
    | _ => cases h
  | .int i, u, h => by
    cases u with
    | int j t =>
      have h : decide (i = j) = true := h
      rw [decide_eq_true_eq] at h
      subst h
      exact ⟨.int i, ⟨_, rfl⟩, fun _ => rfl⟩
    | _ => cases h
  | .str x, u, h => by
    cases u with
    | str y t =>
      have h : decide (strOf x = y) = true := h
      rw [decide_eq_true_eq] at h
      subst h
      exact ⟨.str (strOf x), ⟨_, rfl⟩, fun _ => rfl⟩
    | _ => cases h
  | .ty n, u, h => by
    cases u with
    | type m =>
      have h : decide (n = m) = true := h
      rw [decide_eq_true_eq] at h
      subst h
      exact ⟨.ty n, rfl, fun _ => rfl⟩
    | _ => cases h
  | .glo x, u, h => by
    cases u with
    | ref a =>
      have h : decide (He.ga K x = a) = true := h
      rw [decide_eq_true_eq] at h
      subst h
      exact ⟨.ref _, rfl, fun _ => rfl⟩
    | _ => cases h
  | .raw _, u, h => by cases u <;> cases h
  | .rwp y z, u, h => by
    cases u with
    | ref a =>
      have h : (match K.lookup a with
        | some ⟨.type c, _, .seq its _, _⟩ => decide (c = "tuple") && rwpB y z its.toList
        | _ => false) = true := h
      split at h
      · rename_i c od its n sl q
        obtain ⟨h1, h⟩ := He.ba h
        obtain ⟨t, u, e, q1, q2, q3, q4⟩ := rwpB_ok h
        refine ⟨.ref a, rfl, fun F => ⟨a, t, u, rfl, ⟨⟨_, n, .inr q, congrArg Value.type (of_decide_eq_true h1), ?_⟩, q1, q2, q3, q4⟩⟩⟩
        have e2 : its = #[.str (strOf y) t, .str (strOf z) u] := by rw [← Array.toArray_toList (xs := its), e]
        rw [e2]
      · cases h
    | _ => cases h
  | .tup xs, u, h => by
    cases u with
    | ref a =>
      have h : (match K.lookup a with
        | some ⟨.type c, _, .seq its _, _⟩ => decide (c = "tuple") && (decide (its.size ≤ sizeLine) && repKs K xs its.toList)
        | _ => false) = true := h
      split at h
      · rename_i c od its n sl q
        obtain ⟨h1, h⟩ := He.ba h
        obtain ⟨h2, h3⟩ := He.ba h
        obtain ⟨vs, r1, r2⟩ := repKs_ok h3
        exact ⟨.ref a, rfl, fun F => ⟨a, vs, rfl, .inr ⟨_, its, n, q, congrArg Value.type (of_decide_eq_true h1), rfl, of_decide_eq_true h2, r1⟩, r2 F⟩⟩
      · cases h
    | _ => cases h
  | .lst _, u, h => by cases u <;> cases h
  | .dct _ _, u, h => by cases u <;> cases h
  | .obj _ _ _, u, h => by cases u <;> cases h
  | .scr _, u, h => by cases u <;> cases h
theorem repKs_ok : ∀ {xs : List P} {us : List Value}, repKs K xs us = true → ∃ vs, Vals vs us ∧ ∀ F, RepL K F xs vs
  | [], [], h => ⟨[], .nil, fun _ => .nil⟩
  | [], _ :: _, h => by cases h
  | _ :: _, [], h => by cases h
  | x :: xs, u :: us, h => by
    obtain ⟨h1, h2⟩ := He.ba h
    obtain ⟨v, r1, r2⟩ := repK_ok h1
    obtain ⟨vs, r3, r4⟩ := repKs_ok h2
    exact ⟨v :: vs, .cons r1 r3, fun F => .cons (r2 F) (r4 F)⟩
end
def gloB (K : PySem.W.Frag) (x : Str) (p : P) : Bool := match PySem.W.nsIn K mainGlobals x with
  | some (some u) => repK K p u
  | _ => false
def GV (K : PySem.W.Frag) (mg : Str → Option Value) (x : Str) (p : P) : Prop := ∃ u v, mg x = some u ∧ RelV v u ∧ ∀ F, Rep K F p v
theorem gloB_ok {h : Heap} {mg : Str → Option Value} (X : K.In h) (G : h.Ns mainGlobals mg) {x : Str} {p : P} (c : gloB K x p = true) : GV K mg x p := by
  unfold gloB at c
  split at c
  · rename_i u e
    obtain ⟨v, r, hp⟩ := repK_ok c
    exact ⟨u, v, PySem.W.mg_of X G e, r, hp⟩
  · cases c
end
section
variable {X : Cx} {W : WX} {a b c e o : Expr} {ma mb mc mo : ME} {pos p : Pos} {k : Nat}
theorem oe_gV {x : Str} {q : P} (h : GV X.K X.mg x q) (hg : Gl X x := by rfl) (hd : (x == ("__debug__" : Str)) = false := by decide) : OE X W (.Name x pos) (eC q) := by
  obtain ⟨u, v, h1, h2, h3⟩ := h
  exact oe_glob h1 h2 h3 hg hd
theorem oe_gC {x : Str} (h : X.mg x = some (.ref (He.ga X.K x))) (hg : Gl X x := by rfl) (hd : (x == ("__debug__" : Str)) = false := by decide) : OE X W (.Name x pos) (eC (.glo x)) := oe_glob (v := .ref _) h rfl (fun _ => rfl) hg hd
theorem oe_bT {x : Str} {n : String} (hm : X.mg x = none) (hv : bootBuiltins x = some (.type n) := by first | rfl | decide +kernel) (hg : Gl X x := by rfl) (hn : x ≠ "__name__" := by decide) (hd : (x == ("__debug__" : Str)) = false := by decide) : OE X W (.Name x pos) (eC (.ty n)) := oe_bltn (v := .ty n) hm hv rfl (fun _ => rfl) hg hn hd
def eChn (f g : P → P → Option P) (a b c : ME) : ME := fun ρ S => (a ρ S).bind fun x S1 => (b ρ S1).bind fun y S2 => (op2 f x y S2).bind fun z S3 => match z with
  | .p (.bl true) => (c ρ S3).bind fun w S4 => op2 g y w S4
  | .p (.bl false) => .ok (.p (.bl false)) S3
  | _ => .bad
theorem BinOk.run {K : PySem.W.Frag} {io : Io} {F : Hp} {S : Sto} {H : Hp} {r : R2} {f : P → P → Option P} {d d2 : Vl} {v v2 : V} {C D : Type} {R' : Io → Hp → C → D → Prop} {g : Vl → Sto → Res C} {Q : D → Hp → Prop} {Q1 : VK} {E : XK} (hf : BinOk K r f) (st : Sta K io F S H) (r1 : RepV K io F d v) (r2 : RepV K io F d2 v2)
    (h : RG K R' ((op2 f d d2 S).bind g) io F H Q E) (k : ∀ z F' H' u, Nxt io F H io F' H' → Sta K io F' S H' → Rep K F' z u → RG K R' (g (.p z) S) io F' H' Q E → Q1 u H') : r v v2 H Q1 := by
  unfold op2 at h
  cases e1 : rd S d with
  | none => rw [e1] at h; exact h.elim
  | some x =>
    cases e2 : rd S d2 with
    | none => rw [e1, e2] at h; exact h.elim
    | some y =>
      rw [e1, e2] at h
      dsimp only at h
      cases e3 : f x y with
      | none => rw [e3] at h; exact h.elim
      | some z =>
        rw [e3] at h
        exact hf io F S H x y v v2 z Q1 st (st.rd r1 e1) (st.rd r2 e2) e3 fun F' H' u n s rp => k z F' H' u n s rp (RG.step n h)
theorem chn_go {op op' : CmpOp} {r r' : R2} {f g : P → P → Option P} {ta tb tc : TE} (hf : BinOk X.K r f) (hg : BinOk X.K r' g)
    (ha : ∀ (ρ : En) (S : Sto) (io : Io) (F : Hp) (σ : St) (H : Hp) (Q : VK), Sta X.K io F S H → Mir.Env X.K io F ρ σ → RG X.K (RepA X.K) (ma ρ S) io F H Q (fun c d H' => W c d σ H') → ta σ H Q)
    (hb : ∀ (ρ : En) (S : Sto) (io : Io) (F : Hp) (σ : St) (H : Hp) (Q : VK), Sta X.K io F S H → Mir.Env X.K io F ρ σ → RG X.K (RepA X.K) (mb ρ S) io F H Q (fun c d H' => W c d σ H') → tb σ H Q)
    (hc : ∀ (ρ : En) (S : Sto) (io : Io) (F : Hp) (σ : St) (H : Hp) (Q : VK), Sta X.K io F S H → Mir.Env X.K io F ρ σ → RG X.K (RepA X.K) (mc ρ S) io F H Q (fun c d H' => W c d σ H') → tc σ H Q)
    (ρ : En) (S : Sto) (io : Io) (F : Hp) (σ : St) (H : Hp) (Q : VK) (st : Sta X.K io F S H) (en : Mir.Env X.K io F ρ σ) (h : RG X.K (RepA X.K) (eChn f g ma mb mc ρ S) io F H Q (fun c d H' => W c d σ H')) : tChain r r' ta tb tc σ H Q := by
  refine ha ρ S io F σ H _ st en (RG.bind h fun d S1 io1 F1 H1 v e1 n1 s1 r1 h1 => ?_)
  refine hb ρ S1 io1 F1 σ H1 _ s1 (en.nxt n1) (RG.bind h1 fun d2 S2 io2 F2 H2 v2 e2 n2 s2 r2 h2 => ?_)
  refine BinOk.run hf s2 (r1.mono n2.han n2.fr) r2 h2 fun z F3 H3 u n3 s3 r3 h3 => ?_
  cases z with
  | bl q =>
    have r3 : u = .bl q := r3
    subst r3
    refine ⟨q, rfl, ?_⟩
    cases q with
    | true =>
      refine iteT ?_
      refine hc ρ S2 io2 F3 σ H3 _ s3 (en.nxt ((n1.trans n2).trans n3)) (RG.bind h3 fun d4 S4 io4 F4 H4 v4 e4 n4 s4 r4 h4 => ?_)
      exact s4.op2 hg (r2.mono (n3.trans n4).han (n3.trans n4).fr) r4 h4
    | false => exact iteF (h3 io2 F3 H3 (.bl false) Nxt.refl s3 rfl)
  | _ => exact h3.elim
theorem ot_chn {op op' : CmpOp} {r r' : R2} {f g : P → P → Option P} (ho : OpR X (compareOp op) r) (ho' : OpR X (compareOp op') r') (hf : BinOk X.K r f) (hg : BinOk X.K r' g) (ha : OE X W a ma) (hb : OE X W b mb) (hc : OE X W c mc) (hm : lastMarks [op, op'] [b, c] = false := by with_unfolding_all rfl) :
    OT X W (.Compare a [op, op'] [b, c] pos) (tVal (eChn f g ma mb mc)) := by
  obtain ⟨ta, pa, ha⟩ := ha
  obtain ⟨tb, pb, hb⟩ := hb
  obtain ⟨tc, pc, hc⟩ := hc
  refine ⟨_, pt_chain ho ho' pa pb pc hm, fun ρ S io F σ H Q st en h => ?_⟩
  refine chn_go (op := op) (op' := op') hf hg ha hb hc ρ S io F σ H _ st en ?_
  exact RG.bind h fun d S1 io1 F1 H1 v e1 n1 s1 r1 h1 => tst_go s1 r1 h1
abbrev bLt : P → P → Option P := pIB fun i j => decide (i < j)
abbrev bLe : P → P → Option P := pIB fun i j => decide (i ≤ j)
theorem ot_lele (ha : OE X W a ma) (hb : OE X W b mb) (hc : OE X W c mc) : OT X W (.Compare a [.LtE, .LtE] [b, c] pos) (tVal (eChn bLe bLe ma mb mc)) := ot_chn op_le op_le ok_B0 ok_B0 ha hb hc (nomark c)
def sParG (n : Nat) (m : MA) (r : MGs) : MS := fun ρ S => (m ρ S).go ρ fun ds S1 => if ds.length = n ∧ n ≤ 100000 then ((r ds ρ S1).nox).go ρ fun ρ1 S2 => .ok (.nx ρ1) S2 else .bad
theorem os_parG {ts es : List Expr} {js : List Nat} {mas : MA} {r : MGs} {kt k2 n : Nat} {pt pt2 : Pos} (hc : X.calm = true) (ha : OA X W es mas) (hg : OGs X W0 ts js r) (hn : (assignEach ts X.env).length = n := by rfl) (hst : (assignEach ts X.env).findIdx? (·.1) = none := by rfl)
    (hs : swapsWithSole [.Tuple ts kt pt] (.Tuple es k2 pt2) pos.line X.env = pure false := by rfl) (hw : swappedStores [.Tuple ts kt pt] (.Tuple es k2 pt2) X.env = pure none := by rfl)
    (h1 : (assignEach [.Tuple ts kt pt] X.env).map (·.2) = [assign (.Tuple ts kt pt) X.env] := by rfl) : OS X W (.Assign [.Tuple ts kt pt] (.Tuple es k2 pt2) pos) (sParG n mas r) := by
  obtain ⟨t, p, ha⟩ := ha
  obtain ⟨u, q, hg⟩ := hg
  refine ⟨_, ps_asg (pe_tup p) (pg_tup hc q hn hst) hs hw h1, fun ρ S io F σ H D st en h => ?_⟩
  refine ha ρ S io F σ H _ st en (RS.go en h fun ds S1 io1 F1 H1 vs e1 n1 s1 r1 h2 => ?_)
  by_cases hq : ds.length = n ∧ n ≤ 100000
  · rw [if_pos hq] at h2
    have hl : vs.length = n := by rw [r1.length]; exact hq.1
    refine ⟨by rw [hl]; exact sz5 hq.2, fun p hp => ⟨p, vs, rfl, SqT.of upd_same, hl, ?_⟩⟩
    have s2 := s1.side (o := .tup vs) (s1.notIn hp) (Same.free s1.sub hp)
    have n2 : Nxt io1 F1 H1 io1 F1 (upd H1 p (.tup vs)) := Nxt.side hp
    refine hg ds vs ρ S1 io1 F1 σ _ _ s2 (en.nxt (n1.trans n2)) (r1.mono n2.han n2.fr) (RS.nox (RS.step n2 h2) fun ρ1 S2 io2 F2 H2 σ2 e2 n3 s3 r3 h3 => ?_)
    exact h3 io2 F2 H2 σ2 Nxt.refl s3 r3.1
  · rw [if_neg hq] at h2; exact h2.elim
def sPar3 (i j l : Nat) (a : MA) : MS := fun ρ S => (a ρ S).go ρ fun ds S1 => match ds with
  | [d, d2, d3] => .ok (.nx (((ρ.set i (some d)).set j (some d2)).set l (some d3))) S1
  | _ => .bad
end
end Mir

namespace Mir
open PySem L2
def lcGoV (g : MG) (t : MT) (e : ME) (ρ : En) : List P → Sto → Res (List Vl)
  | [], S => .ok [] S
  | x :: xs, S => (g (.p x) ρ S).nox.bind fun ρ1 S1 => (t ρ1 S1).nox.bind fun b S2 => match b with
    | true => (e ρ1 S2).nox.bind fun d S3 => (lcGoV g t e ρ xs S3).bind fun ys S5 => .ok (d :: ys) S5
    | false => lcGoV g t e ρ xs S2
def below (n : Nat) (ds : List Vl) : Bool := ds.all fun d => match d with
  | .p _ => true
  | .c j => decide (j < n)
theorem below_ok {n : Nat} {ds : List Vl} (h : below n ds = true) : ∀ j, Vl.c j ∈ ds → j < n := fun j hj => by
  have := List.all_eq_true.mp h _ hj
  exact of_decide_eq_true this
def eLcV (it : MI) (vs : List Nat) (g : MG) (t : MT) (e : ME) : ME := fun ρ S => (it ρ S).bind fun xs S1 => if xs.length ≤ 100000 then (lcGoV g t e (wipeE ρ vs) xs S1).bind fun ys S2 => if below S2.length ys then .ok (.c S2.length) (S2 ++ [.lsv ys]) else .bad else .bad
section
variable {K : PySem.W.Frag} {Q : VK} {E : XK}
theorem lc_turnsV {wi : TI} {xs : List P} {J : It} {js vs : List Nat} {g : MG} {t : MT} {e : ME} {ρ : En} {σ : St} {S1 : Sto} {io1 : Io} {F1 H1 : Hp} {fin : List Vl → Sto → Res Vl} (s1 : Sta K io1 F1 S1 H1) (en : Mir.Env K io1 F1 ρ σ) (hj : ∀ j ∈ js, j ∈ vs)
    (ij : IterOk K F1 xs J) (hz : xs.length ≤ 100000) (h : RG K (RepA K) ((lcGoV g t e (wipeE ρ vs) xs S1).bind fin) io1 F1 H1 Q E)
    (D : Addr) (hD : H1 D = none)
    (done : ∀ ys S2 io2 F2 H2 acc, Nxt io1 F1 H1 io2 F2 H2 → Sta K io2 F2 S2 H2 → (∀ k : Nat, io2[k]? ≠ some (some D)) → F2 D = none → H2 D = some (.lst acc) → RepVs K io2 F2 ys acc → RG K (RepA K) (fin ys S2) io1 F1 H1 Q E → Q (.ref D) H2) :
    ∃ W : Nat → Nat → Hp → Prop, (∃ m, W 0 m (upd H1 D (.lst []))) ∧ ∀ i m H, W i m H →
      (J.stop i H ∧ Q (.ref D) H) ∨ (J.go i H ∧ ∃ Nx : Hp → Prop, (∀ H', Nx H' → ∃ m', m' < m ∧ W (i + 1) m' H') ∧ ∀ x H', J.yld i H x H' → tG K W0 js g x (L2.wipe σ vs) H' fun σ2 H2 => L2.wipe σ2 vs = L2.wipe σ vs ∧ tT K W0 t σ2 H2 fun b H3 =>
        if b = true then tE K W0 e σ2 H3 fun y H4 => ∃ acc, H4 D = some (.lst acc) ∧ acc.length < sizeLine ∧ Nx (upd H4 D (.lst (acc ++ [y]))) else Nx H3) := by
  let Inv' : Nat → Hp → Prop := fun i H => ∃ S io F acc ys, Nxt io1 F1 H1 io F H ∧ Sta K io F S H ∧ (∀ k : Nat, io[k]? ≠ some (some D)) ∧ F D = none ∧ H D = some (.lst acc) ∧ RepVs K io F ys acc ∧ ys.length ≤ i ∧ RG K (RepA K) ((lcGoV g t e (wipeE ρ vs) (xs.drop i) S).bind fun zs S2 => fin (ys ++ zs) S2) io1 F1 H1 Q E
  refine ⟨fun i m H => m = xs.length - i ∧ i ≤ xs.length ∧ Inv' i H, ⟨xs.length, by simp, Nat.zero_le _, S1, io1, F1, [], [], ?_, s1.side (s1.notIn hD) (Same.free s1.sub hD), s1.notIn hD, Same.free s1.sub hD, upd_same, rfl, Nat.le_refl _, ?_⟩, ?_⟩
  · refine ⟨fun _ _ z => z, fun _ _ z => z, fun a o z _ => ?_, fun _ _ z => .inl z, fun a z => ?_, fun _ z => .inl z⟩
    · rw [upd_ne (ne_of_none z hD)]; exact z
    · by_cases q : a = D
      · subst q; exact hD
      · rw [upd_ne q] at z; exact z
  · exact h
  rintro i m H ⟨rfl, hle, S, io, F, acc, ys, nx, st, nD, fD, hH, ra, hl, hh⟩
  obtain ⟨go, stop⟩ := ij io F S H i nx.fr st
  cases hx : xs[i]? with
  | none =>
    have hd : xs.drop i = [] := List.drop_eq_nil_of_le (List.getElem?_eq_none_iff.mp hx)
    rw [hd] at hh
    have hh : RG K (RepA K) (fin (ys ++ []) S) io1 F1 H1 Q E := hh
    rw [List.append_nil] at hh
    exact .inl ⟨stop hx, done ys S io F H acc nx st nD fD hH ra hh⟩
  | some x =>
    have hlt : i < xs.length := (List.getElem?_eq_some_iff.mp hx).1
    have hd : xs.drop i = x :: xs.drop (i + 1) := by
      rw [List.drop_eq_getElem_cons hlt]
      congr 1
      exact (List.getElem?_eq_some_iff.mp hx).2
    rw [hd] at hh
    obtain ⟨g1, g2⟩ := go x hx
    refine .inr ⟨g1, Inv' (i + 1), fun H' q => ⟨xs.length - (i + 1), by omega, rfl, hlt, q⟩, fun v H'' hy => ?_⟩
    obtain ⟨F'', n2, s2, rv⟩ := g2 v H'' hy
    have keepD : ∀ {io' : Io} {F' : Hp} {H' : Hp}, Nxt io F H io' F' H' → (∀ k : Nat, io'[k]? ≠ some (some D)) ∧ F' D = none ∧ H' D = some (.lst acc) := fun {io' F' H'} n => by
      refine ⟨fun k e => ?_, ?_, n.out D _ hH nD⟩
      · rcases n.new k D e with z | z
        · exact nD k z
        · rw [hH] at z; cases z
      · cases q : F' D with
        | none => rfl
        | some o =>
          rcases n.nf D (by rw [q]; exact fun z => nomatch z) with z | z | ⟨k, z⟩
          · exact absurd fD z
          · rw [hH] at z; cases z
          · exact absurd z (nD k)
    have hh : RG K (RepA K) (((g (.p x) (wipeE ρ vs) S).nox.bind fun ρ1 S1 => (t ρ1 S1).nox.bind fun b S2 => match b with
      | true => (e ρ1 S2).nox.bind fun d S3 => (lcGoV g t e (wipeE ρ vs) (xs.drop (i + 1)) S3).bind fun ys S5 => .ok (d :: ys) S5
      | false => lcGoV g t e (wipeE ρ vs) (xs.drop (i + 1)) S2).bind fun zs S2 => fin (ys ++ zs) S2) io1 F1 H1 Q E := hh
    cases q1 : g (.p x) (wipeE ρ vs) S with
    | bad => rw [q1] at hh; exact hh.elim
    | exc c x S => rw [q1] at hh; exact hh.elim
    | ok ρ1 Sa =>
      rw [q1] at hh
      refine ⟨.p x, wipeE ρ vs, S, io, F'', s2, ((en.nxt nx).nxt n2).wipe vs, rv, ?_⟩
      rw [q1]
      intro io3 F3 H3 σ3 n3 s3 r3
      refine ⟨?_, ?_⟩
      · rw [wipe_agree r3.2 hj]
        have key : ∀ (τ : St) (vs : List Nat), L2.wipe (L2.wipe τ vs) vs = L2.wipe τ vs := by
          intro τ vs
          apply List.ext_getElem?
          intro j
          have k2 : ∀ (τ : St) (vs : List Nat) (j : Nat), (L2.wipe τ vs)[j]? = if j ∈ vs then (τ[j]?).map (fun _ => none) else τ[j]? := wipe_get
          rw [k2, k2]
          by_cases hj : j ∈ vs
          · rw [if_pos hj, if_pos hj]
            cases τ[j]? <;> rfl
          · rw [if_neg hj, if_neg hj]
        exact key σ vs
      have hh : RG K (RepA K) (((t ρ1 Sa).nox.bind fun b S2 => match b with
        | true => (e ρ1 S2).nox.bind fun d S3 => (lcGoV g t e (wipeE ρ vs) (xs.drop (i + 1)) S3).bind fun ys S5 => .ok (d :: ys) S5
        | false => lcGoV g t e (wipeE ρ vs) (xs.drop (i + 1)) S2).bind fun zs S2 => fin (ys ++ zs) S2) io1 F1 H1 Q E := hh
      cases q2 : t ρ1 Sa with
      | bad => rw [q2] at hh; exact hh.elim
      | exc c x S => rw [q2] at hh; exact hh.elim
      | ok b Sb =>
        rw [q2] at hh
        refine ⟨ρ1, Sa, io3, F3, s3, r3.1, ?_⟩
        rw [q2]
        intro io4 F4 H4 b' n4 s4 r4
        cases r4
        cases b with
        | false =>
          refine iteF ?_
          obtain ⟨d1, d2, d3⟩ := keepD ((n2.trans n3).trans n4)
          exact ⟨Sb, io4, F4, acc, ys, nx.trans ((n2.trans n3).trans n4), s4, d1, d2, d3, RepVs.mono ((n2.trans n3).trans n4).han ((n2.trans n3).trans n4).fr ra, Nat.le_succ_of_le hl, hh⟩
        | true =>
          refine iteT ?_
          have hh : RG K (RepA K) (((e ρ1 Sb).nox.bind fun d S3 => (lcGoV g t e (wipeE ρ vs) (xs.drop (i + 1)) S3).bind fun ys S5 => .ok (d :: ys) S5).bind fun zs S2 => fin (ys ++ zs) S2) io1 F1 H1 Q E := hh
          cases q3 : e ρ1 Sb with
          | bad => rw [q3] at hh; exact hh.elim
          | exc c x S => rw [q3] at hh; exact hh.elim
          | ok d Sc =>
            rw [q3] at hh
            refine ⟨ρ1, Sb, io4, F4, s4, r3.1.nxt n4, ?_⟩
            rw [q3]
            intro io5 F5 H5 w n5 s5 r5
            have n15 := ((n2.trans n3).trans n4).trans n5
            have hh : RG K (RepA K) (((lcGoV g t e (wipeE ρ vs) (xs.drop (i + 1)) Sc).bind fun ys S5 => .ok (d :: ys) S5).bind fun zs S2 => fin (ys ++ zs) S2) io1 F1 H1 Q E := hh
            obtain ⟨d1, d2, d3⟩ := keepD n15
            have hlen : acc.length ≤ i := by rw [ra.length]; exact hl
            refine ⟨acc, d3, sz5l (by omega), ?_⟩
            have nx' := nx.trans n15
            refine ⟨Sc, io5, F5, acc ++ [w], ys ++ [d], ?_, s5.side d1 d2, d1, d2, upd_same, (RepVs.mono n15.han n15.fr ra).append (ys := [d]) (ws := [w]) ⟨w, [], rfl, r5, rfl⟩, by rw [List.length_append]; exact Nat.succ_le_succ hl, ?_⟩
            · refine ⟨nx'.han, nx'.fr, fun a o z zn => ?_, nx'.new, fun a z => ?_, nx'.nf⟩
              · rw [upd_ne (ne_of_none z hD)]; exact nx'.out a o z zn
              · by_cases q : a = D
                · subst q; exact hD
                · rw [upd_ne q] at z; exact nx'.stay a z
            · have q5 : (((lcGoV g t e (wipeE ρ vs) (xs.drop (i + 1)) Sc).bind fun ys S5 => Res.ok (d :: ys) S5).bind fun zs S2 => fin (ys ++ zs) S2) = (lcGoV g t e (wipeE ρ vs) (xs.drop (i + 1)) Sc).bind fun zs S2 => fin (ys ++ [d] ++ zs) S2 := by
                cases lcGoV g t e (wipeE ρ vs) (xs.drop (i + 1)) Sc with
                | bad => rfl
                | exc c x S => rfl
                | ok zs S =>
                  show fin (ys ++ (d :: zs)) S = fin (ys ++ [d] ++ zs) S
                  rw [List.append_assoc]
                  rfl
              rw [q5] at hh
              exact hh
end
section
variable {X : Cx} {W : WX} {elt tg iter : Expr} {ifs : List Expr} {scope : Scope} {own : List (Str × Nat)} {pos : Pos} {it : MI} {js : List Nat} {g : MG} {t : MT} {e : ME}
theorem oe_lcV (hc : X.calm = true) (hN : X.N.Nodup) (hi : OI X W tg iter it) (ok : BlkOk X.N X.env.scope scope own) (hj : ∀ j ∈ js, j ∈ own.map (·.2))
    (hg : ∀ (s : Shared) (H : Hp) (C : Addr) (cl : List (Str × Addr)) (fp : List Addr), OG (X.blk s H scope (compEnvC scope cl C X.env) fp) W0 tg js g) (ht : ∀ (s : Shared) (H : Hp) (C : Addr) (cl : List (Str × Addr)) (fp : List Addr), OTs (X.blk s H scope (compEnvC scope cl C X.env) fp) ifs t)
    (he : ∀ (s : Shared) (H : Hp) (C : Addr) (cl : List (Str × Addr)) (fp : List Addr), OE (X.blk s H scope (compEnvC scope cl C X.env) fp) W0 elt e) (hs : ∀ x, foldedSetIterable iter X.env x = pure x := by intro _; rfl) :
    OE X W (.ListComp elt [⟨tg, iter, ifs, 0⟩] scope pos) (eLcV it (own.map (·.2)) g t e) := by
  obtain ⟨wi, p, hi⟩ := hi
  refine ⟨_, pe_lc (g := tG X.K W0 js g) (tt := tT X.K W0 t) (te := tE X.K W0 e) hc hN p ok (fun s H C cl fp => (hg s H C cl fp).pg) (fun s H C cl fp => ht s H C cl fp) (fun s H C cl fp => (he s H C cl fp).pe) hs, fun ρ S io F σ H Q st en h => ?_⟩
  refine hi ρ S io F σ H _ st en (RG.bind h fun xs S1 io1 F1 H1 J e1 n1 s1 ij h1 => ?_)
  intro D hD
  by_cases hz : xs.length ≤ 100000
  · rw [if_pos hz] at h1
    refine lc_turnsV (wi := wi) s1 (en.nxt n1) hj ij hz h1 D hD fun ys S2 io2 F2 H2 acc nx s2 nD fD hH ra h2 => ?_
    rcases Bool.eq_false_or_eq_true (below S2.length ys) with hbl | hbl
    case inr => rw [if_neg (by rw [hbl]; decide)] at h2; exact h2.elim
    rw [if_pos hbl] at h2
    have hi2 : (io2 ++ [some D])[S2.length]? = some (some D) := by rw [← s2.len]; simp
    obtain ⟨s3, n3⟩ := Sta.lay s2 nD fD hH (c := .lsv ys) ⟨D, acc, hi2, fD, hH, RepVs.mono (fun k a e => by rw [List.getElem?_append_left (List.getElem?_eq_some_iff.mp e).1]; exact e) (Same.refl _) ra, below_ok hbl⟩
    refine h2 (io2 ++ [some D]) F2 H2 (.ref D) ?_ s3 ⟨D, hi2, rfl⟩
    refine ⟨fun k a z => n3 k a (nx.han k a z), nx.fr, nx.out, fun k a z => ?_, nx.stay, nx.nf⟩
    rw [List.getElem?_append] at z
    split at z
    · exact nx.new k a z
    · rename_i hk
      have hk2 : k - io2.length = 0 := by
        have := (List.getElem?_eq_some_iff.mp z).1
        simp at this
        omega
      rw [hk2] at z
      have z : D = a := by simpa using z
      subst z
      exact .inr hD
  · rw [if_neg hz] at h1
    exact h1.elim
end
theorem BinOk.or {K : PySem.W.Frag} {r r' : R2} {f g : P → P → Option P} (h : BinOk K r f) (h' : BinOk K r' g) : BinOk K (fun x y H Q => r x y H Q ∨ r' x y H Q) (fun x y => match f x y with
  | some z => some z
  | none => g x y) := by
  intro io F S H x y v w z Q st rx ry e k
  cases q : f x y with
  | some z' =>
    dsimp only at e
    rw [q] at e
    have e : z' = z := Option.some.inj e
    subst e
    exact .inl (h io F S H x y v w z' Q st rx ry q k)
  | none =>
    dsimp only at e
    rw [q] at e
    exact .inr (h' io F S H x y v w z Q st rx ry e k)
def pInD (y z : P) : Option P := match z with
  | .lst xs => if y.dat 60 && (P.lst xs).dat 60 then some (.bl (inP y xs)) else none
  | _ => none
def pNotInD (y z : P) : Option P := match z with
  | .lst xs => if y.dat 60 && (P.lst xs).dat 60 then some (.bl (!inP y xs)) else none
  | _ => none
theorem any_toD {y : P} {n : Nat} (hy : y.dat n = true) {m : Nat} : ∀ {xs : List P}, datL xs m = true → ((toDL xs).any fun z => PyData.eqv z y.toD) = inP y xs
  | [], _ => rfl
  | x :: xs, h => by
    have h : (x.dat m && datL xs m) = true := h
    rw [Bool.and_eq_true] at h
    show (PyData.eqv x.toD y.toD || (toDL xs).any fun z => PyData.eqv z y.toD) = (x.eqv y || inP y xs)
    rw [P.eqD h.1 hy, any_toD hy h.2]
theorem ok_inD {K : PySem.W.Frag} : BinOk K (rInD K) pInD := by
  intro io F S H x y v w z Q st rx ry e k
  unfold pInD at e
  split at e
  · rename_i xs
    split at e
    · rename_i hd
      rw [Bool.and_eq_true] at hd
      cases e
      refine ⟨x.toD, toDL xs, Rep.dp hd.1 (rx.now st.sub), Rep.dp (x := .lst xs) hd.2 (ry.now st.sub), P.shp (by decide) hd.1, P.shp (x := .lst xs) (by decide) hd.2, ?_⟩
      rw [any_toD (m := 59) hd.1 hd.2]
      exact k F H _ Nxt.refl st rfl
    · cases e
  · cases e
theorem ok_notInD {K : PySem.W.Frag} : BinOk K (rNotInD K) pNotInD := by
  intro io F S H x y v w z Q st rx ry e k
  unfold pNotInD at e
  split at e
  · rename_i xs
    split at e
    · rename_i hd
      rw [Bool.and_eq_true] at hd
      cases e
      refine ⟨x.toD, toDL xs, Rep.dp hd.1 (rx.now st.sub), Rep.dp (x := .lst xs) hd.2 (ry.now st.sub), P.shp (by decide) hd.1, P.shp (x := .lst xs) (by decide) hd.2, ?_⟩
      rw [any_toD (m := 59) hd.1 hd.2]
      exact k F H _ Nxt.refl st rfl
    · cases e
  · cases e
def pIn2 (x y : P) : Option P := match pIn x y with
  | some z => some z
  | none => pInD x y
def pNotIn2 (x y : P) : Option P := match pNotIn x y with
  | some z => some z
  | none => pNotInD x y
section
variable {X : Cx} {W : WX} {a b : Expr} {ma mb : ME} {pos : Pos} {k : Nat}
theorem room65 {A : Around} (hr : Room k A) : A.units + 65 < cLine := by have := hr.un; omega
theorem oe_in2 (hr : Room k X.A) (ha : OE X W a ma) (hb : OE X W b mb) (hm : behindInMarks .In b = false := by rfl) : OE X W (.Compare a [.In] [b] pos) (eBin pIn2 ma mb) := oe_cmp (OpR.or (OpR.or op_in_seq op_in_str) (op_inD (room65 hr))) (BinOk.or ok_in ok_inD) ha hb hm
theorem ot_in2 (hr : Room k X.A) (ha : OE X W a ma) (hb : OE X W b mb) (hm : behindInMarks .In b = false := by rfl) : OT X W (.Compare a [.In] [b] pos) (tVal (eBin pIn2 ma mb)) := ot_cmp (OpR.or (OpR.or op_in_seq op_in_str) (op_inD (room65 hr))) (BinOk.or ok_in ok_inD) ha hb hm
theorem ot_notIn2 (hr : Room k X.A) (ha : OE X W a ma) (hb : OE X W b mb) (hm : behindInMarks .NotIn b = false := by rfl) : OT X W (.Compare a [.NotIn] [b] pos) (tVal (eBin pNotIn2 ma mb)) := ot_cmp (OpR.or (OpR.or op_notIn_seq op_notin_str) (op_notInD (room65 hr))) (BinOk.or ok_notIn ok_notInD) ha hb hm
end
end Mir

namespace Mir
open PySem L2
theorem szL_ {n : Nat} (h : n < 16700000) : n < sizeLine := Nat.lt_of_lt_of_le h (by decide)
def lcGo2 (g : MG) (t : MT) (it1 : MI) (vs1 : List Nat) (g1 : MG) (t1 : MT) (e : ME) (ρ : En) : List P → Sto → Res (List P)
  | [], S => .ok [] S
  | x :: xs, S => (g (.p x) ρ S).nox.bind fun ρ1 S1 => (t ρ1 S1).nox.bind fun b S2 => match b with
    | true => (it1 ρ1 S2).nox.bind fun zs S3 => if zs.length ≤ 4000 then (lcGo g1 t1 e (wipeE ρ1 vs1) zs S3).bind fun us S4 => (lcGo2 g t it1 vs1 g1 t1 e ρ xs S4).bind fun ws S5 => .ok (us ++ ws) S5 else .bad
    | false => lcGo2 g t it1 vs1 g1 t1 e ρ xs S2
def eLc2 (it : MI) (vs : List Nat) (g : MG) (t : MT) (it1 : MI) (vs1 : List Nat) (g1 : MG) (t1 : MT) (e : ME) : ME := fun ρ S => (it ρ S).bind fun xs S1 => if xs.length ≤ 4000 then (lcGo2 g t it1 vs1 g1 t1 e (wipeE ρ vs) xs S1).bind fun ys S2 => .ok (.p (.lst ys)) S2 else .bad
section
variable {K : PySem.W.Frag} {Q : VK} {E : XK}
theorem lc_inner {wi : TI} {xs : List P} {J : It} {js vs : List Nat} {g : MG} {t : MT} {e : ME} {ρ : En} {σ : St} {S1 : Sto} {ioB : Io} {FB HB : Hp} {io1 : Io} {F1 H1 : Hp} {acc0 : List V} {ys0 : List P} {fin : List P → Sto → Res Vl} (s1 : Sta K io1 F1 S1 H1) (en : Mir.Env K io1 F1 ρ σ) (hj : ∀ j ∈ js, j ∈ vs)
    (ij : IterOk K F1 xs J) (h : RG K (RepA K) ((lcGo g t e (wipeE ρ vs) xs S1).bind fun zs S2 => fin (ys0 ++ zs) S2) ioB FB HB Q E)
    (hB : Nxt ioB FB HB io1 F1 H1) (D : Addr) (hD : HB D = none) (nD : ∀ k : Nat, io1[k]? ≠ some (some D)) (fD : F1 D = none) (hH : H1 D = some (.lst acc0)) (ra : RepL K F1 ys0 acc0) (hz : ys0.length + xs.length ≤ 16000000) (R : Hp → Prop)
    (done : ∀ ys S2 io2 F2 H2 acc, (∀ (k : Nat) (a : Addr), io1[k]? = some (some a) → io2[k]? = some (some a)) → Same F1 F2 → Nxt ioB FB HB io2 F2 H2 → Sta K io2 F2 S2 H2 → (∀ k : Nat, io2[k]? ≠ some (some D)) → F2 D = none → H2 D = some (.lst acc) → RepL K F2 ys acc → ys.length ≤ ys0.length + xs.length → RG K (RepA K) (fin ys S2) ioB FB HB Q E → R H2) :
    ∃ W : Nat → Nat → Hp → Prop, (∃ m, W 0 m H1) ∧ ∀ i m H, W i m H →
      (J.stop i H ∧ R H) ∨ (J.go i H ∧ ∃ Nx : Hp → Prop, (∀ H', Nx H' → ∃ m', m' < m ∧ W (i + 1) m' H') ∧ ∀ x H', J.yld i H x H' → tG K W0 js g x (L2.wipe σ vs) H' fun σ2 H2 => L2.wipe σ2 vs = L2.wipe σ vs ∧ tT K W0 t σ2 H2 fun b H3 =>
        if b = true then tE K W0 e σ2 H3 fun y H4 => ∃ acc, H4 D = some (.lst acc) ∧ acc.length < sizeLine ∧ Nx (upd H4 D (.lst (acc ++ [y]))) else Nx H3) := by
  let Inv' : Nat → Hp → Prop := fun i H => ∃ S io F acc ys, (∀ (k : Nat) (a : Addr), io1[k]? = some (some a) → io[k]? = some (some a)) ∧ Same F1 F ∧ Nxt ioB FB HB io F H ∧ Sta K io F S H ∧ (∀ k : Nat, io[k]? ≠ some (some D)) ∧ F D = none ∧ H D = some (.lst acc) ∧ RepL K F ys acc ∧ ys.length ≤ ys0.length + i ∧ RG K (RepA K) ((lcGo g t e (wipeE ρ vs) (xs.drop i) S).bind fun zs S2 => fin (ys ++ zs) S2) ioB FB HB Q E
  refine ⟨fun i m H => m = xs.length - i ∧ i ≤ xs.length ∧ Inv' i H, ⟨xs.length, by simp, Nat.zero_le _, S1, io1, F1, acc0, ys0, fun _ _ z => z, fun _ _ z => z, hB, s1, nD, fD, hH, ra, Nat.le_refl _, h⟩, ?_⟩
  clear nD fD hH ra h s1
  rintro i m H ⟨rfl, hle, S, io, F, acc, ys, han1, fr1, nx, st, nD, fD, hH, ra, hl, hh⟩
  obtain ⟨go, stop⟩ := ij io F S H i fr1 st
  cases hx : xs[i]? with
  | none =>
    have hd : xs.drop i = [] := List.drop_eq_nil_of_le (List.getElem?_eq_none_iff.mp hx)
    rw [hd] at hh
    have hh : RG K (RepA K) (fin (ys ++ []) S) ioB FB HB Q E := hh
    rw [List.append_nil] at hh
    exact .inl ⟨stop hx, done ys S io F H acc han1 fr1 nx st nD fD hH ra (by omega) hh⟩
  | some x =>
    have hlt : i < xs.length := (List.getElem?_eq_some_iff.mp hx).1
    have hd : xs.drop i = x :: xs.drop (i + 1) := by
      rw [List.drop_eq_getElem_cons hlt]
      congr 1
      exact (List.getElem?_eq_some_iff.mp hx).2
    rw [hd] at hh
    obtain ⟨go1, go2⟩ := go x hx
    refine .inr ⟨go1, Inv' (i + 1), fun H' q => ⟨xs.length - (i + 1), by omega, rfl, hlt, q⟩, fun v H'' hy => ?_⟩
    obtain ⟨F'', n2, s2, rv⟩ := go2 v H'' hy
    have keepD : ∀ {io' : Io} {F' : Hp} {H' : Hp}, Nxt io F H io' F' H' → (∀ k : Nat, io'[k]? ≠ some (some D)) ∧ F' D = none ∧ H' D = some (.lst acc) := fun {io' F' H'} n => by
      refine ⟨fun k e => ?_, ?_, n.out D _ hH nD⟩
      · rcases n.new k D e with z | z
        · exact nD k z
        · rw [hH] at z; cases z
      · cases q : F' D with
        | none => rfl
        | some o =>
          rcases n.nf D (by rw [q]; exact fun z => nomatch z) with z | z | ⟨k, z⟩
          · exact absurd fD z
          · rw [hH] at z; cases z
          · exact absurd z (nD k)
    have hh : RG K (RepA K) (((g (.p x) (wipeE ρ vs) S).nox.bind fun ρ1 S1 => (t ρ1 S1).nox.bind fun b S2 => match b with
      | true => (e ρ1 S2).nox.bind fun d S3 => (frz d S3).bind fun y S4 => (lcGo g t e (wipeE ρ vs) (xs.drop (i + 1)) S4).bind fun ys S5 => .ok (y :: ys) S5
      | false => lcGo g t e (wipeE ρ vs) (xs.drop (i + 1)) S2).bind fun zs S2 => fin (ys ++ zs) S2) ioB FB HB Q E := hh
    cases q1 : g (.p x) (wipeE ρ vs) S with
    | bad => rw [q1] at hh; exact hh.elim
    | exc c x S => rw [q1] at hh; exact hh.elim
    | ok ρ1 Sa =>
      rw [q1] at hh
      refine ⟨.p x, wipeE ρ vs, S, io, F'', s2, ((en.mono han1 fr1).nxt n2).wipe vs, rv, ?_⟩
      rw [q1]
      intro io3 F3 H3 σ3 n3 s3 r3
      refine ⟨?_, ?_⟩
      · rw [wipe_agree r3.2 hj]
        have key : ∀ (τ : St) (vs : List Nat), L2.wipe (L2.wipe τ vs) vs = L2.wipe τ vs := by
          intro τ vs
          apply List.ext_getElem?
          intro j
          have k2 : ∀ (τ : St) (vs : List Nat) (j : Nat), (L2.wipe τ vs)[j]? = if j ∈ vs then (τ[j]?).map (fun _ => none) else τ[j]? := wipe_get
          rw [k2, k2]
          by_cases hj : j ∈ vs
          · rw [if_pos hj, if_pos hj]
            cases τ[j]? <;> rfl
          · rw [if_neg hj, if_neg hj]
        exact key σ vs
      have hh : RG K (RepA K) (((t ρ1 Sa).nox.bind fun b S2 => match b with
        | true => (e ρ1 S2).nox.bind fun d S3 => (frz d S3).bind fun y S4 => (lcGo g t e (wipeE ρ vs) (xs.drop (i + 1)) S4).bind fun ys S5 => .ok (y :: ys) S5
        | false => lcGo g t e (wipeE ρ vs) (xs.drop (i + 1)) S2).bind fun zs S2 => fin (ys ++ zs) S2) ioB FB HB Q E := hh
      cases q2 : t ρ1 Sa with
      | bad => rw [q2] at hh; exact hh.elim
      | exc c x S => rw [q2] at hh; exact hh.elim
      | ok b Sb =>
        rw [q2] at hh
        refine ⟨ρ1, Sa, io3, F3, s3, r3.1, ?_⟩
        rw [q2]
        intro io4 F4 H4 b' n4 s4 r4
        cases r4
        cases b with
        | false =>
          refine iteF ?_
          obtain ⟨d1, d2, d3⟩ := keepD ((n2.trans n3).trans n4)
          exact ⟨Sb, io4, F4, acc, ys, fun k a z => ((n2.trans n3).trans n4).han k a (han1 k a z), fr1.trans ((n2.trans n3).trans n4).fr, nx.trans ((n2.trans n3).trans n4), s4, d1, d2, d3, RepL.mono ((n2.trans n3).trans n4).fr ra, by omega, hh⟩
        | true =>
          refine iteT ?_
          have hh : RG K (RepA K) (((e ρ1 Sb).nox.bind fun d S3 => (frz d S3).bind fun y S4 => (lcGo g t e (wipeE ρ vs) (xs.drop (i + 1)) S4).bind fun ys S5 => .ok (y :: ys) S5).bind fun zs S2 => fin (ys ++ zs) S2) ioB FB HB Q E := hh
          cases q3 : e ρ1 Sb with
          | bad => rw [q3] at hh; exact hh.elim
          | exc c x S => rw [q3] at hh; exact hh.elim
          | ok d Sc =>
            rw [q3] at hh
            refine ⟨ρ1, Sb, io4, F4, s4, r3.1.nxt n4, ?_⟩
            rw [q3]
            intro io5 F5 H5 w n5 s5 r5
            have hh : RG K (RepA K) (((frz d Sc).bind fun y S4 => (lcGo g t e (wipeE ρ vs) (xs.drop (i + 1)) S4).bind fun ys S5 => .ok (y :: ys) S5).bind fun zs S2 => fin (ys ++ zs) S2) ioB FB HB Q E := hh
            have n15 := ((n2.trans n3).trans n4).trans n5
            cases q4 : frz d Sc with
            | bad => rw [q4] at hh; exact hh.elim
            | exc c x S =>
              exact absurd q4 (frz_nox _ _ _ _ _)
            | ok y Sd =>
              rw [q4] at hh
              obtain ⟨y', Sd', F6, n6, s6, rp, hz6, _⟩ := s5.frz (C := Vl) (D := V) (R' := RepA K) (g := fun _ S => .ok (.p .non) S) (Q := fun _ _ => True) (E := fun _ _ _ => True) r5 (by rw [q4]; exact fun _ _ _ _ _ _ _ => trivial)
              rw [q4] at hz6; cases hz6
              obtain ⟨d1, d2, d3⟩ := keepD (n15.trans n6)
              have hlen : acc.length ≤ ys0.length + i := by rw [ra.length]; exact hl
              refine ⟨acc, d3, szL_ (by omega), ?_⟩
              have nx' := nx.trans (n15.trans n6)
              refine ⟨Sd, io5, F6, acc ++ [w], ys ++ [y], fun k a z => (n15.trans n6).han k a (han1 k a z), fr1.trans (n15.trans n6).fr, ?_, s6.side d1 d2, d1, d2, upd_same, (RepL.mono (n15.trans n6).fr ra).append (.cons rp .nil), by rw [List.length_append]; simp only [List.length_cons, List.length_nil]; omega, ?_⟩
              · refine ⟨nx'.han, nx'.fr, fun a o z zn => ?_, nx'.new, fun a z => ?_, nx'.nf⟩
                · rw [upd_ne (ne_of_none z hD)]; exact nx'.out a o z zn
                · by_cases q : a = D
                  · subst q; exact hD
                  · rw [upd_ne q] at z; exact nx'.stay a z
              · have hh : RG K (RepA K) (((lcGo g t e (wipeE ρ vs) (xs.drop (i + 1)) Sd).bind fun ys S5 => Res.ok (y :: ys) S5).bind fun zs S2 => fin (ys ++ zs) S2) ioB FB HB Q E := hh
                have q5 : (((lcGo g t e (wipeE ρ vs) (xs.drop (i + 1)) Sd).bind fun ys S5 => Res.ok (y :: ys) S5).bind fun zs S2 => fin (ys ++ zs) S2) = (lcGo g t e (wipeE ρ vs) (xs.drop (i + 1)) Sd).bind fun zs S2 => fin (ys ++ [y] ++ zs) S2 := by
                  cases lcGo g t e (wipeE ρ vs) (xs.drop (i + 1)) Sd with
                  | bad => rfl
                  | exc c x S => rfl
                  | ok zs S =>
                    show fin (ys ++ (y :: zs)) S = fin (ys ++ [y] ++ zs) S
                    rw [List.append_assoc]
                    rfl
                rw [q5] at hh
                exact hh
theorem lc2_turns {wi1 : TI} {xs : List P} {J : It} {js js1 vs vs1 : List Nat} {g : MG} {t : MT} {it1 : MI} {g1 : MG} {t1 : MT} {e : ME} {ρ : En} {σ : St} {S1 : Sto} {io1 : Io} {F1 H1 : Hp} {fin : List P → Sto → Res Vl} (s1 : Sta K io1 F1 S1 H1) (en : Mir.Env K io1 F1 ρ σ) (hj : ∀ j ∈ js, j ∈ vs) (hj1 : ∀ j ∈ js1, j ∈ vs1) (hw1 : ∀ (ρ : En) (S : Sto) (io : Io) (F : Hp) (σ : St) (H : Hp) (R : It → Hp → Prop), Sta K io F S H → Mir.Env K io F ρ σ → RG K (RepJ K) (it1 ρ S) io F H R (fun c d H' => False) → wi1 σ H R)
    (ij : IterOk K F1 xs J) (hz : xs.length ≤ 4000) (h : RG K (RepA K) ((lcGo2 g t it1 vs1 g1 t1 e (wipeE ρ vs) xs S1).bind fin) io1 F1 H1 Q E)
    (D : Addr) (hD : H1 D = none)
    (done : ∀ ys S2 io2 F2 H2 acc, Nxt io1 F1 H1 io2 F2 H2 → Sta K io2 F2 S2 H2 → (∀ k : Nat, io2[k]? ≠ some (some D)) → F2 D = none → H2 D = some (.lst acc) → RepL K F2 ys acc → RG K (RepA K) (fin ys S2) io1 F1 H1 Q E → Q (.ref D) H2) :
    ∃ W : Nat → Nat → Hp → Prop, (∃ m, W 0 m (upd H1 D (.lst []))) ∧ ∀ i m H, W i m H →
      (J.stop i H ∧ Q (.ref D) H) ∨ (J.go i H ∧ ∃ Nx : Hp → Prop, (∀ H', Nx H' → ∃ m', m' < m ∧ W (i + 1) m' H') ∧ ∀ x H', J.yld i H x H' → tG K W0 js g x (L2.wipe σ vs) H' fun σ2 H2 => L2.wipe σ2 vs = L2.wipe σ vs ∧ tT K W0 t σ2 H2 fun b H3 =>
        if b = true then wi1 σ2 H3 fun J1 H4 => ∃ W1 : Nat → Nat → Hp → Prop, (∃ m, W1 0 m H4) ∧ ∀ j k H, W1 j k H →
          (J1.stop j H ∧ Nx H) ∨ (J1.go j H ∧ ∃ Nx1 : Hp → Prop, (∀ H', Nx1 H' → ∃ k', k' < k ∧ W1 (j + 1) k' H') ∧ ∀ x H', J1.yld j H x H' → tG K W0 js1 g1 x (L2.wipe σ2 vs1) H' fun σ3 H5 => L2.wipe σ3 vs1 = L2.wipe σ2 vs1 ∧ tT K W0 t1 σ3 H5 fun b H6 =>
            if b = true then tE K W0 e σ3 H6 fun y H7 => ∃ acc, H7 D = some (.lst acc) ∧ acc.length < sizeLine ∧ Nx1 (upd H7 D (.lst (acc ++ [y]))) else Nx1 H6)
        else Nx H3) := by
  let Inv' : Nat → Hp → Prop := fun i H => ∃ S io F acc ys, Nxt io1 F1 H1 io F H ∧ Sta K io F S H ∧ (∀ k : Nat, io[k]? ≠ some (some D)) ∧ F D = none ∧ H D = some (.lst acc) ∧ RepL K F ys acc ∧ ys.length ≤ 4000 * i ∧ RG K (RepA K) ((lcGo2 g t it1 vs1 g1 t1 e (wipeE ρ vs) (xs.drop i) S).bind fun zs S2 => fin (ys ++ zs) S2) io1 F1 H1 Q E
  refine ⟨fun i m H => m = xs.length - i ∧ i ≤ xs.length ∧ Inv' i H, ⟨xs.length, by simp, Nat.zero_le _, S1, io1, F1, [], [], ?_, s1.side (s1.notIn hD) (Same.free s1.sub hD), s1.notIn hD, Same.free s1.sub hD, upd_same, .nil, Nat.le_refl _, ?_⟩, ?_⟩
  · refine ⟨fun _ _ z => z, fun _ _ z => z, fun a o z _ => ?_, fun _ _ z => .inl z, fun a z => ?_, fun _ z => .inl z⟩
    · rw [upd_ne (ne_of_none z hD)]; exact z
    · by_cases q : a = D
      · subst q; exact hD
      · rw [upd_ne q] at z; exact z
  · exact h
  rintro i m H ⟨rfl, hle, S, io, F, acc, ys, nx, st, nD, fD, hH, ra, hl, hh⟩
  obtain ⟨go, stop⟩ := ij io F S H i nx.fr st
  cases hx : xs[i]? with
  | none =>
    have hd : xs.drop i = [] := List.drop_eq_nil_of_le (List.getElem?_eq_none_iff.mp hx)
    rw [hd] at hh
    have hh : RG K (RepA K) (fin (ys ++ []) S) io1 F1 H1 Q E := hh
    rw [List.append_nil] at hh
    exact .inl ⟨stop hx, done ys S io F H acc nx st nD fD hH ra hh⟩
  | some x =>
    have hlt : i < xs.length := (List.getElem?_eq_some_iff.mp hx).1
    have hd : xs.drop i = x :: xs.drop (i + 1) := by
      rw [List.drop_eq_getElem_cons hlt]
      congr 1
      exact (List.getElem?_eq_some_iff.mp hx).2
    rw [hd] at hh
    obtain ⟨go1, go2⟩ := go x hx
    refine .inr ⟨go1, Inv' (i + 1), fun H' q => ⟨xs.length - (i + 1), by omega, rfl, hlt, q⟩, fun v H'' hy => ?_⟩
    obtain ⟨F'', n2, s2, rv⟩ := go2 v H'' hy
    have keepD : ∀ {io' : Io} {F' : Hp} {H' : Hp}, Nxt io F H io' F' H' → (∀ k : Nat, io'[k]? ≠ some (some D)) ∧ F' D = none ∧ H' D = some (.lst acc) := fun {io' F' H'} n => by
      refine ⟨fun k e => ?_, ?_, n.out D _ hH nD⟩
      · rcases n.new k D e with z | z
        · exact nD k z
        · rw [hH] at z; cases z
      · cases q : F' D with
        | none => rfl
        | some o =>
          rcases n.nf D (by rw [q]; exact fun z => nomatch z) with z | z | ⟨k, z⟩
          · exact absurd fD z
          · rw [hH] at z; cases z
          · exact absurd z (nD k)
    have hh : RG K (RepA K) (((g (.p x) (wipeE ρ vs) S).nox.bind fun ρ1 S1 => (t ρ1 S1).nox.bind fun b S2 => match b with
      | true => (it1 ρ1 S2).nox.bind fun zs S3 => if zs.length ≤ 4000 then (lcGo g1 t1 e (wipeE ρ1 vs1) zs S3).bind fun us S4 => (lcGo2 g t it1 vs1 g1 t1 e (wipeE ρ vs) (xs.drop (i + 1)) S4).bind fun ws S5 => .ok (us ++ ws) S5 else .bad
      | false => lcGo2 g t it1 vs1 g1 t1 e (wipeE ρ vs) (xs.drop (i + 1)) S2).bind fun zs S2 => fin (ys ++ zs) S2) io1 F1 H1 Q E := hh
    cases q1 : g (.p x) (wipeE ρ vs) S with
    | bad => rw [q1] at hh; exact hh.elim
    | exc c x S => rw [q1] at hh; exact hh.elim
    | ok ρ1 Sa =>
      rw [q1] at hh
      refine ⟨.p x, wipeE ρ vs, S, io, F'', s2, ((en.nxt nx).nxt n2).wipe vs, rv, ?_⟩
      rw [q1]
      intro io3 F3 H3 σ3 n3 s3 r3
      refine ⟨?_, ?_⟩
      · rw [wipe_agree r3.2 hj]
        have key : ∀ (τ : St) (vs : List Nat), L2.wipe (L2.wipe τ vs) vs = L2.wipe τ vs := by
          intro τ vs
          apply List.ext_getElem?
          intro j
          have k2 : ∀ (τ : St) (vs : List Nat) (j : Nat), (L2.wipe τ vs)[j]? = if j ∈ vs then (τ[j]?).map (fun _ => none) else τ[j]? := wipe_get
          rw [k2, k2]
          by_cases hj : j ∈ vs
          · rw [if_pos hj, if_pos hj]
            cases τ[j]? <;> rfl
          · rw [if_neg hj, if_neg hj]
        exact key σ vs
      have hh : RG K (RepA K) (((t ρ1 Sa).nox.bind fun b S2 => match b with
        | true => (it1 ρ1 S2).nox.bind fun zs S3 => if zs.length ≤ 4000 then (lcGo g1 t1 e (wipeE ρ1 vs1) zs S3).bind fun us S4 => (lcGo2 g t it1 vs1 g1 t1 e (wipeE ρ vs) (xs.drop (i + 1)) S4).bind fun ws S5 => .ok (us ++ ws) S5 else .bad
        | false => lcGo2 g t it1 vs1 g1 t1 e (wipeE ρ vs) (xs.drop (i + 1)) S2).bind fun zs S2 => fin (ys ++ zs) S2) io1 F1 H1 Q E := hh
      cases q2 : t ρ1 Sa with
      | bad => rw [q2] at hh; exact hh.elim
      | exc c x S => rw [q2] at hh; exact hh.elim
      | ok b Sb =>
        rw [q2] at hh
        refine ⟨ρ1, Sa, io3, F3, s3, r3.1, ?_⟩
        rw [q2]
        intro io4 F4 H4 b' n4 s4 r4
        cases r4
        cases b with
        | false =>
          refine iteF ?_
          obtain ⟨d1, d2, d3⟩ := keepD ((n2.trans n3).trans n4)
          exact ⟨Sb, io4, F4, acc, ys, nx.trans ((n2.trans n3).trans n4), s4, d1, d2, d3, RepL.mono ((n2.trans n3).trans n4).fr ra, by omega, hh⟩
        | true =>
          refine iteT ?_
          have hh : RG K (RepA K) (((it1 ρ1 Sb).nox.bind fun zs S3 => if zs.length ≤ 4000 then (lcGo g1 t1 e (wipeE ρ1 vs1) zs S3).bind fun us S4 => (lcGo2 g t it1 vs1 g1 t1 e (wipeE ρ vs) (xs.drop (i + 1)) S4).bind fun ws S5 => .ok (us ++ ws) S5 else .bad).bind fun zs S2 => fin (ys ++ zs) S2) io1 F1 H1 Q E := hh
          cases q3 : it1 ρ1 Sb with
          | bad => rw [q3] at hh; exact hh.elim
          | exc c x S => rw [q3] at hh; exact hh.elim
          | ok zs Sc =>
            rw [q3] at hh
            have hh : RG K (RepA K) ((if zs.length ≤ 4000 then (lcGo g1 t1 e (wipeE ρ1 vs1) zs Sc).bind fun us S4 => (lcGo2 g t it1 vs1 g1 t1 e (wipeE ρ vs) (xs.drop (i + 1)) S4).bind fun ws S5 => .ok (us ++ ws) S5 else .bad).bind fun zs S2 => fin (ys ++ zs) S2) io1 F1 H1 Q E := hh
            by_cases hzs : zs.length ≤ 4000
            · rw [if_pos hzs] at hh
              refine hw1 ρ1 Sb io4 F4 σ3 H4 _ s4 (r3.1.nxt n4) ?_
              rw [q3]
              intro io5 F5 H5 J1 n5 s5 r5
              have n15 := ((n2.trans n3).trans n4).trans n5
              obtain ⟨d1, d2, d3⟩ := keepD n15
              have nx' := nx.trans n15
              have q5 : (((lcGo g1 t1 e (wipeE ρ1 vs1) zs Sc).bind fun us S4 => (lcGo2 g t it1 vs1 g1 t1 e (wipeE ρ vs) (xs.drop (i + 1)) S4).bind fun ws S5 => Res.ok (us ++ ws) S5).bind fun zs S2 => fin (ys ++ zs) S2) = (lcGo g1 t1 e (wipeE ρ1 vs1) zs Sc).bind fun us S4 => (fun zz S4 => (lcGo2 g t it1 vs1 g1 t1 e (wipeE ρ vs) (xs.drop (i + 1)) S4).bind fun ws S5 => fin (zz ++ ws) S5) (ys ++ us) S4 := by
                cases lcGo g1 t1 e (wipeE ρ1 vs1) zs Sc with
                | bad => rfl
                | exc c x S => rfl
                | ok us S4 =>
                  show ((lcGo2 g t it1 vs1 g1 t1 e (wipeE ρ vs) (xs.drop (i + 1)) S4).bind fun ws S5 => Res.ok (us ++ ws) S5).bind (fun zs S2 => fin (ys ++ zs) S2) = (lcGo2 g t it1 vs1 g1 t1 e (wipeE ρ vs) (xs.drop (i + 1)) S4).bind fun ws S5 => fin (ys ++ us ++ ws) S5
                  cases lcGo2 g t it1 vs1 g1 t1 e (wipeE ρ vs) (xs.drop (i + 1)) S4 with
                  | bad => rfl
                  | exc c x S => rfl
                  | ok ws S5 =>
                    show fin (ys ++ (us ++ ws)) S5 = fin (ys ++ us ++ ws) S5
                    rw [List.append_assoc]
              rw [q5] at hh
              refine lc_inner (wi := wi1) (fin := fun zz S4 => (lcGo2 g t it1 vs1 g1 t1 e (wipeE ρ vs) (xs.drop (i + 1)) S4).bind fun ws S5 => fin (zz ++ ws) S5) s5 ((r3.1.nxt n4).nxt n5) hj1 r5 hh nx' D hD d1 d2 d3 (RepL.mono n15.fr ra) (by omega) _ fun ys2 S2 io2 F2 H2 acc2 han2 fr2 nx2 s2' nD2 fD2 hH2 ra2 hl2 h2 => ?_
              exact ⟨S2, io2, F2, acc2, ys2, nx2, s2', nD2, fD2, hH2, ra2, by omega, h2⟩
            · rw [if_neg hzs] at hh
              exact hh.elim
end
def tI1 (K : PySem.W.Frag) (m : MI) : TI := fun σ H R => ∃ ρ S io F, Sta K io F S H ∧ Mir.Env K io F ρ σ ∧ RG K (RepJ K) (m ρ S) io F H R (fun c d H' => False)
theorem OI.pi {X : Cx} {tg iter : Expr} {m : MI} (h : OI X W0 tg iter m) : PI X tg iter (tI1 X.K m) := by
  obtain ⟨t, p, h⟩ := h
  exact ⟨fun pins s σ H R I ⟨ρ, S, io, F, st, en, q⟩ => p.run pins s σ H R I (h ρ S io F σ H R st en q)⟩
section
variable {X : Cx} {W : WX} {elt tg iter tg1 iter1 : Expr} {ifs ifs1 : List Expr} {scope : Scope} {own : List (Str × Nat)} {pos : Pos} {it it1 : MI} {js js1 vs1 : List Nat} {g g1 : MG} {t t1 : MT} {e : ME}
theorem os_setLc2 {i : Nat} {y : Str} {py spos : Pos} (hc : X.calm = true) (hN : X.N.Nodup) (hi : OI X W tg iter it) (ok : BlkOk X.N X.env.scope scope own) (hv : ∀ j ∈ vs1, j ∈ own.map (·.2)) (hj : ∀ j ∈ js, j ∈ own.map (·.2)) (hj1 : ∀ j ∈ js1, j ∈ vs1)
    (hg : ∀ (s : Shared) (H : Hp) (C : Addr) (cl : List (Str × Addr)) (fp : List Addr), OG (X.blk s H scope (compEnvC scope cl C X.env) fp) W0 tg js g) (ht : ∀ (s : Shared) (H : Hp) (C : Addr) (cl : List (Str × Addr)) (fp : List Addr), OTs (X.blk s H scope (compEnvC scope cl C X.env) fp) ifs t)
    (hi1 : ∀ (s : Shared) (H : Hp) (C : Addr) (cl : List (Str × Addr)) (fp : List Addr), OI (X.blk s H scope (compEnvC scope cl C X.env) fp) W0 tg1 iter1 it1) (hg1 : ∀ (s : Shared) (H : Hp) (C : Addr) (cl : List (Str × Addr)) (fp : List Addr), OG (X.blk s H scope (compEnvC scope cl C X.env) fp) W0 tg1 js1 g1) (ht1 : ∀ (s : Shared) (H : Hp) (C : Addr) (cl : List (Str × Addr)) (fp : List Addr), OTs (X.blk s H scope (compEnvC scope cl C X.env) fp) ifs1 t1)
    (he : ∀ (s : Shared) (H : Hp) (C : Addr) (cl : List (Str × Addr)) (fp : List Addr), OE (X.blk s H scope (compEnvC scope cl C X.env) fp) W0 elt e) (hy : X.N[i]? = some y := by rfl) (hyl : X.env.scope.names.lookup y = some .local := by rfl)
    (hsw : swapsWith (.ListComp elt [⟨tg, iter, ifs, 0⟩, ⟨tg1, iter1, ifs1, 0⟩] scope pos) (some (.Name y py)) spos.line X.env = pure true := by exact sw_true rfl rfl rfl (by decide +kernel)) (hs : ∀ x, foldedSetIterable iter X.env x = pure x := by intro _; rfl) (hs1 : ∀ env x, foldedSetIterable iter1 env x = pure x := by intro _ _; rfl) :
    OS X W (.Assign [.Name y py] (.ListComp elt [⟨tg, iter, ifs, 0⟩, ⟨tg1, iter1, ifs1, 0⟩] scope pos) spos) (sAsg (eLc2 it (own.map (·.2)) g t it1 vs1 g1 t1 e) (gNm i)) := by
  obtain ⟨wi, p, hi⟩ := hi
  refine ⟨_, ps_setLc2 (wi1 := tI1 X.K it1) (g1 := tG X.K W0 js1 g1) (tt1 := tT X.K W0 t1) (g := tG X.K W0 js g) (tt := tT X.K W0 t) (te := tE X.K W0 e) hc hN hy hyl hsw p ok hv (fun s H C cl fp => (hg s H C cl fp).pg) (fun s H C cl fp => ht s H C cl fp) (fun s H C cl fp => (hi1 s H C cl fp).pi) (fun s H C cl fp => (hg1 s H C cl fp).pg) (fun s H C cl fp => ht1 s H C cl fp) (fun s H C cl fp => (he s H C cl fp).pe) hs hs1, fun ρ S io F σ H D' st en h => ?_⟩
  have h := RS.go (R := RepA X.K) (Q1 := fun v H1 => gName i v σ H1 D'.nx) en h fun d S1 io1 F1 H1 v e1 n1 s1 r1 h1 => h1 io1 F1 H1 (σ.set i (some v)) Nxt.refl s1 ((en.nxt n1).set r1 i)
  show tLc2 wi _ _ _ _ _ _ _ _ σ H (fun v H1 => gName i v σ H1 D'.nx)
  refine hi ρ S io F σ H _ st en (RG.bind h fun xs S1 io1 F1 H1 J e1 n1 s1 ij h1 => ?_)
  intro D hD
  by_cases hz : xs.length ≤ 4000
  · rw [if_pos hz] at h1
    refine lc2_turns (wi1 := tI1 X.K it1) s1 (en.nxt n1) hj hj1 (fun ρ S io F σ H R st en h => ⟨ρ, S, io, F, st, en, h⟩) ij hz h1 D hD fun ys S2 io2 F2 H2 acc nx s2 nD fD hH ra h2 => ?_
    refine h2 io2 (upd F2 D (.lst acc)) H2 (.ref D) ?_ ?_ ⟨D, acc, rfl, upd_same, RepL.mono (upd_same_of fD) ra⟩
    · refine ⟨nx.han, nx.fr.trans (upd_same_of fD), nx.out, nx.new, nx.stay, fun a z => ?_⟩
      by_cases q : a = D
      · subst q; exact .inr (.inl hD)
      · rw [upd_ne q] at z; exact nx.nf a z
    · refine ⟨s2.len, s2.inj, fun a u z => ?_, s2.trk, fun k c z => ?_⟩
      · by_cases q : a = D
        · subst q; rw [upd_same] at z; cases z; exact hH
        · rw [upd_ne q] at z; exact s2.sub _ _ z
      · refine (s2.cel k c z).mono (fun _ _ z => z) (upd_same_of fD) (fun b hb hn => ?_) fun _ _ _ hu => hu
        rw [upd_ne (fun q => by subst q; exact nD k hb)]
        exact hn
  · rw [if_neg hz] at h1
    exact h1.elim
end
end Mir

namespace Mir
open PySem L2
section
variable {X : Cx} {W : WX} {x : Str} {params : Arguments} {ps ks : List Str} {k j : Nat} {m : MF} {pm : List Nat} {kws : List Keyword} {mks : MA} {p pos : Pos}
theorem oe_fnK0 (G : GF X.prog X.w X.K X.mg X.base x params ps k m) (hr : RoomG j X.A) (hk : k ≤ j) (tk : Takes X W) (hw : OK_ X W kws mks) (hb : KwTo params ps ks 0 pm) (hpm : ∀ i ∈ pm, i < 0 + ks.length := by decide) (hg : Gl X x := by rfl)
    (hall : (backToKw pos (keywordEach kws X.env)).all (·.1.isSome) = true := by rfl) (hks : (backToKw pos (keywordEach kws X.env)).filterMap (·.1) = ks := by rfl)
    (hdb : (x == ("__debug__" : Str)) = false := by decide)
    (hpl : ((backTo pos (starEach [] X.env)).any (·.1) || (backToKw pos (keywordEach kws X.env)).any (·.1.isNone)) = false := by rfl) :
    OE X W (.Call (.Name x p) [] kws pos) (eFnK m 0 ks.length pm aNil mks) := by
  obtain ⟨fd, F, _, hp, _⟩ := G.fn
  obtain ⟨u, qk, hw⟩ := hw
  refine ⟨fun σ H Q => u σ H fun zs H2 => zs.length = ks.length ∧ spM X.K m (permL .non pm ([] ++ zs)) H2 Q (WE W σ), ⟨fun pins s σ H Q I h => ?_⟩, fun ρ S io F σ H Q st en h => ?_⟩
  · refine wpAny_Call_Name_kw (ld_glob I hg G.gl ?_ hdb)
    refine PySem.W.callWith_KW0 (h₀ := X.base) I.ok.mod.kin G.kp hall (thn (qk.run pos pins s σ H _ I h) fun ws s2 ⟨zs, H2, I2, rz, h2, q2⟩ => ⟨I2.kIn, ?_⟩) hpl
    rw [hks]
    exact run_kw (us := []) (vs := []) (E := WE W) F (hr.mono hk) hp hb (passAt tk σ) hpm I2 .nil rz rfl h2 q2
  · have h : RG X.K (RepA X.K) ((mks ρ S).bind fun zs S2 => if ([] : List Vl).length = 0 ∧ zs.length = ks.length then m (permL (.p .non) pm ([] ++ zs)) S2 else .bad) io F H Q _ := h
    refine hw ρ S io F σ H _ st en (RG.bind h fun zs S2 io2 F2 H2 us e2 n2 s2 r2 h2 => ?_)
    by_cases hq : ([] : List Vl).length = 0 ∧ zs.length = ks.length
    · rw [if_pos hq] at h2
      have l2 : us.length = ks.length := by rw [r2.length]; exact hq.2
      exact ⟨l2, io2, F2, S2, _, s2, RepVs.perm (ds := [] ++ zs) (vs := [] ++ us) r2 pm (fun i hi => by rw [List.nil_append, l2]; have := hpm i hi; omega), h2⟩
    · rw [if_neg hq] at h2; exact h2.elim
end
def eRgL (m : ME) : ME := fun ρ S => (m ρ S).bind fun d S1 => match d with
  | .p (.int j) => if 0 ≤ j ∧ j ≤ 100000 then .ok (.p (.lst (rangeP 0 j.toNat))) S1 else .bad
  | _ => .bad
section
variable {X : Cx} {W : WX} {a b : Expr} {ma mb : ME} {p p2 pos pos2 : Pos}
end
def pIs : P → P → Option P
  | .bl a, .bl b => some (.bl (decide (a = b)))
  | _, _ => none
def pIsNot : P → P → Option P
  | .bl a, .bl b => some (.bl (!decide (a = b)))
  | _, _ => none
section
variable {X : Cx} {W : WX} {a b : Expr} {ma mb : ME} {pos : Pos}
end
def aStar (m : ME) (r : MA) : MA := fun ρ S => (m ρ S).bind fun d S1 => match rd S1 d with
  | some (.lst xs) => (r ρ S1).bind fun ys S2 => .ok (xs.map Vl.p ++ ys) S2
  | some (.tup xs) => (r ρ S1).bind fun ys S2 => .ok (xs.map Vl.p ++ ys) S2
  | _ => .bad
section
variable {X : Cx} {W : WX} {a : Expr} {es : List Expr} {ma : ME} {mas : MA} {p : Pos}
theorem oa_star (ha : OE X W a ma) (hr : OA X W es mas) (hs : starEach (.Starred a p :: es) X.env = (true, eval a X.env) :: starEach es X.env := by rfl) : OA X W (.Starred a p :: es) (aStar ma mas) := by
  obtain ⟨t, q, ha⟩ := ha
  obtain ⟨u, q2, hr⟩ := hr
  refine ⟨_, StX.pa_star q q2 hs, fun ρ S io F σ H Q st en h => ?_⟩
  refine ha ρ S io F σ H _ st en (RG.bind h fun d S1 io1 F1 H1 v e1 n1 s1 r1 h1 => ?_)
  cases e : rd S1 d with
  | none => rw [e] at h1; exact h1.elim
  | some x =>
    rw [e] at h1
    have rr := s1.rd r1 e
    cases x with
    | lst xs =>
      obtain ⟨a, vs, rfl, hH, rl⟩ := rr
      refine ⟨a, vs, rfl, .inr (SqL.of hH), ?_⟩
      refine hr ρ S1 io1 F1 σ H1 _ s1 (en.nxt n1) (RG.bind h1 fun d2 S2 io2 F2 H2 v2 e2 n2 s2 r2 h2 => ?_)
      exact RG.val (R := RepAs X.K) (d := xs.map Vl.p ++ d2) s2 ((RepVs.pure.mpr (RepL.mono n2.fr rl)).append r2) h2
    | tup xs =>
      obtain ⟨a, vs, rfl, hT, rl⟩ := rr
      refine ⟨a, vs, rfl, .inl (sqt_mono s1.sub hT), ?_⟩
      refine hr ρ S1 io1 F1 σ H1 _ s1 (en.nxt n1) (RG.bind h1 fun d2 S2 io2 F2 H2 v2 e2 n2 s2 r2 h2 => ?_)
      exact RG.val (R := RepAs X.K) (d := xs.map Vl.p ++ d2) s2 ((RepVs.pure.mpr (RepL.mono n2.fr rl)).append r2) h2
    | _ => exact h1.elim
end
abbrev MJ := List Nat → En → Sto → Res (List Nat)
section
variable {X : Cx} {W : WX} {a : Expr} {es : List Expr} {ma : ME} {mj : MJ} {p pos : Pos}
end
end Mir

namespace Mir
open PySem L2
section
variable {K : PySem.W.Frag} {io : Io} {F H : Hp} {S : Sto}
theorem Sta.keep (st : Sta K io F S H) : Sta K (io ++ [none]) F (S ++ [.res]) H ∧ Nxt io F H (io ++ [none]) F H := by
  have hi : ∀ (k : Nat) (a : Addr), io[k]? = some (some a) → (io ++ [none])[k]? = some (some a) := fun k a e => by
    rw [List.getElem?_append_left (List.getElem?_eq_some_iff.mp e).1]
    exact e
  have back : ∀ (k : Nat) (a : Addr), (io ++ [none])[k]? = some (some a) → io[k]? = some (some a) := fun k a e => by
    rw [List.getElem?_append] at e
    split at e
    · exact e
    · rename_i hk
      have hk2 : k - io.length = 0 := by
        have := (List.getElem?_eq_some_iff.mp e).1
        simp at this
        omega
      rw [hk2] at e
      cases e
  refine ⟨⟨by rw [List.length_append, List.length_append, st.len]; rfl, fun j k a h1 h2 => st.inj j k a (back _ _ h1) (back _ _ h2), st.sub, fun k a e => st.trk k a (back _ _ e), fun k d e => ?_⟩, ⟨hi, fun _ _ h => h, fun _ _ h _ => h, fun k a e => .inl (back _ _ e), fun _ h => h, fun _ h => .inl h⟩⟩
  rw [List.getElem?_append] at e
  split at e
  · exact (st.cel k d e).mono hi (fun _ _ z => z) (fun _ _ hn => hn) fun _ _ _ hu => hu
  · rename_i hk
    have hk2 : k - S.length = 0 := by
      have := (List.getElem?_eq_some_iff.mp e).1
      simp at this
      omega
    rw [hk2] at e
    have e' : Cell.res = d := by simpa using e
    subst e'
    have : k = io.length := by have := st.len; omega
    subst this
    show (io ++ [none])[io.length]? = some none
    simp
theorem Sta.keeps (st : Sta K io F S H) : ∀ n : Nat, Sta K (io ++ List.replicate n none) F (S ++ List.replicate n .res) H ∧ Nxt io F H (io ++ List.replicate n none) F H
  | 0 => by
    rw [List.replicate_zero, List.replicate_zero, List.append_nil, List.append_nil]
    exact ⟨st, Nxt.refl⟩
  | n + 1 => by
    obtain ⟨s, nx⟩ := Sta.keeps st n
    obtain ⟨s2, n2⟩ := s.keep
    rw [List.append_assoc, List.append_assoc, ← List.replicate_succ', ← List.replicate_succ'] at s2
    rw [List.append_assoc, ← List.replicate_succ'] at n2
    exact ⟨s2, nx.trans n2⟩
end
section
variable {X : Cx} {W : WX} {pos : Pos} {es : List Expr} {mas : MA}
end
section
variable {X : Cx} {W : WX} {pos : Pos} {mo : ME}
end
section
variable {X : Cx} {W : WX} {x : Str} {p pos : Pos} {params : Arguments} {ps : List Str} {k j : Nat} {m : MF}
end
def kyOf : P → Option (Int ⊕ List Nat)
  | .int i => some (.inl i)
  | .str x => some (.inr x)
  | _ => none
def kysOf : List P → Option (List (Int ⊕ List Nat))
  | [] => some []
  | x :: xs => (kyOf x).bind fun a => (kysOf xs).map (a :: ·)
theorem strOf_inj {x y : List Nat} (h : strOf x = strOf y) : x = y := by
  have := congrArg (fun s : Str => s.cps.toList) h
  simpa [strOf] using this
theorem kys_rep {K : PySem.W.Frag} {F : Hp} : ∀ {xs : List P} {vs : List V} {k : List (Int ⊕ List Nat)}, RepL K F xs vs → kysOf xs = some k → vs = (k.map kk).map kV
  | [], vs, k, r, e => by
    have r : vs = [] := r
    cases e
    exact r
  | x :: xs, vs, k, ⟨v, r, e1, h1, h2⟩, e => by
    have e : ((kyOf x).bind fun a => (kysOf xs).map (a :: ·)) = some k := e
    cases hx : kyOf x with
    | none => rw [hx] at e; cases e
    | some a =>
      rw [hx] at e
      have e : (kysOf xs).map (a :: ·) = some k := e
      cases hs : kysOf xs with
      | none => rw [hs] at e; cases e
      | some ks =>
        rw [hs] at e
        cases e
        rw [e1, kys_rep h2 hs]
        have hv : v = kV (kk a) := by
          cases x <;> first
            | (cases hx; done)
            | (cases hx; exact h1)
        rw [hv]
        rfl
def dKey (S : Sto) : Vl → Option (List (Int ⊕ List Nat))
  | .c i => (match S[i]? with
    | some (.tup xs) => kysOf xs
    | _ => none)
  | _ => none
theorem Sta.key {K : PySem.W.Frag} {io : Io} {F H : Hp} {S : Sto} (st : Sta K io F S H) {d : Vl} {v : V} {k : List (Int ⊕ List Nat)} (r : RepV K io F d v) (h : dKey S d = some k) : ∃ b, v = .ref b ∧ H b = some (.tup ((k.map kk).map kV)) := by
  cases d with
  | p x => cases h
  | c i =>
    unfold dKey at h
    dsimp only at h
    split at h
    · rename_i xs hi
      obtain ⟨a, ha, rfl⟩ := r
      obtain ⟨b, vs, hb, hF, hr⟩ := st.cel i _ hi
      rw [ha] at hb
      cases hb
      have := kys_rep hr h
      subst this
      exact ⟨a, rfl, st.sub _ _ hF⟩
    · cases h
theorem Sta.dict {K : PySem.W.Frag} {io : Io} {F H : Hp} {S : Sto} (st : Sta K io F S H) {j : Nat} {v : V} {ks : List (List (Int ⊕ List Nat))} {xs : List P} (r : RepV K io F (.c j) v) (h : S[j]? = some (.dcT ks xs)) :
    ∃ a ws, v = .ref a ∧ io[j]? = some (some a) ∧ F a = none ∧ H a = some (.dT ((ks.map (List.map kk)).zip ws)) ∧ ks.length = ws.length ∧ RepL K F xs ws := by
  obtain ⟨a, ha, rfl⟩ := r
  obtain ⟨b, ws, hb, hF, hH, hl, hr⟩ := st.cel j _ h
  rw [ha] at hb
  cases hb
  exact ⟨a, ws, rfl, ha, hF, hH, hl, hr⟩
section
variable {X : Cx} {W : WX} {a b i o v : Expr} {ma mb mi mo mv : ME} {pos pos' : Pos} {k : Nat}
theorem un1 {A : Around} (hr : Room k A) : A.units + 1 < cLine := by
  have := hr.units
  omega
end
end Mir

namespace Mir
open PySem L2
theorem Nxt.beside {io io1 : Io} {F F1 H H1 : Hp} {p : Addr} {o : HO} (hp : H p = none) (n : Nxt io F (upd H p o) io1 F1 H1) : Nxt io F H io1 F1 H1 where
  han := n.han
  fr := n.fr
  out := fun a u e q => n.out a u (by rw [upd_ne (ne_of_none e hp)]; exact e) q
  new := fun k a e => by
    rcases n.new k a e with z | z
    · exact .inl z
    · right
      by_cases h : a = p
      · subst h; exact hp
      · rw [upd_ne h] at z; exact z
  stay := fun a e => by
    have := n.stay a e
    by_cases h : a = p
    · subst h; exact hp
    · rw [upd_ne h] at this; exact this
  nf := fun a e => by
    rcases n.nf a e with z | z | z
    · exact .inl z
    · by_cases h : a = p
      · subst h; exact .inr (.inl hp)
      · rw [upd_ne h] at z; exact .inr (.inl z)
    · exact .inr (.inr z)
section
variable {X : Cx} {W : WX} {e : Expr} {m : ME} {k : Nat} {p1 p2 p3 p4 dpos pos : Pos} {j1 j2 j3 j4 : Nat} {x1 x2 x3 x4 : Str} {a b c d : List Nat}
end
end Mir

namespace Mir
open PySem L2 PyProof.Rows
open AutoSeq1 (wpAny_loadPart')
section
variable {prog : Program} {w : World} {A : Around} {E : Value → Shared → Prop} {s : Shared}
end
section
variable {prog : Program} {w : World} {A : Around} {E : Value → Shared → Prop} {s : Shared}
end
section
variable {X : Cx} {W : WX} {a : Expr} {ma : ME} {p pos tpos : Pos}
end
end Mir

namespace Mir
open PySem L2
def isStrP : P → Bool
  | .str _ => true
  | _ => false
section
variable {X : Cx} {W : WX} {a o : Expr} {ma mo : ME} {apos pos p : Pos}
end
end Mir

namespace Mir
open PySem L2
theorem strOf_back (x : Str) : strOf x.cps.toList = x := by
  cases x with
  | mk c => simp [strOf]
theorem strOf_cps (x : List Nat) : (strOf x).cps.toList = x := by simp [strOf]
section
variable {K : PySem.W.Frag}
end
section
variable {X : Cx} {W : WX} {a : Expr} {ma : ME} {pos p : Pos}
end
end Mir

namespace Mir
open PySem L2 PyProof.Rows
section
variable {X : Cx} {W : WX} {a b : Expr} {ma mb : ME} {p pos tpos : Pos}
end
end Mir

namespace Mir
open PySem L2
def eDctC : ME := fun _ S => .ok (.c S.length) (S ++ [.dct [] []])
section
variable {X : Cx} {W : WX} {pos : Pos}
theorem oe_dctC : OE X W (.Dict [] [] pos) eDctC := by
  refine ⟨_, pe_dnewK, fun ρ S io F σ H Q st en hw => fun p hp => ?_⟩
  have hi : (io ++ [some p])[S.length]? = some (some p) := by rw [← st.len]; simp
  obtain ⟨s3, n3⟩ := st.push (o := .dK []) (c := .dct [] []) hp ⟨p, [], hi, Same.free st.sub hp, upd_same, .nil, .nil⟩
  exact hw _ _ _ (.ref p) n3 s3 ⟨p, hi, rfl⟩
end
def dPutS (S : Sto) (y e : Vl) (x : P) : Option Sto := match e, y with
  | .c j, .p k => (match S[j]? with
    | some (.dct ks xs) => if (kOf k).isSome ∧ ks.length < 100000 then some (S.set j (.dct (dPutK k ks) (dPutV k x ks xs))) else none
    | _ => none)
  | _, _ => none
def sPutK (v o i : ME) : MS := fun ρ S => (v ρ S).go ρ fun d S1 => (o ρ S1).go ρ fun e S2 => (i ρ S2).go ρ fun y S3 => (frz d S3).go ρ fun x S4 => match dPutS S4 y e x with
  | some S5 => .ok (.nx ρ) S5
  | none => .bad
section
variable {X : Cx} {W : WX} {a b i o v f : Expr} {ma mb mi mo mv mf : ME} {pos pos' apos : Pos} {k : Nat}
theorem os_putK (hr : Room k X.A) (ho : OE X W o mo) (hi : OE X W i mi) (hv : OE X W v mv) (hs : swapsWith v (some (.Subscript o i pos')) pos.line X.env = pure false := by rfl) : OS X W (.Assign [.Subscript o i pos'] v pos) (sPutK mv mo mi) := by
  obtain ⟨t, p, ho⟩ := ho
  obtain ⟨u, q, hi⟩ := hi
  obtain ⟨u2, q2, hv⟩ := hv
  refine ⟨_, ps_dput (un1 hr) p q q2 hs, fun ρ S io F σ H D st en h => ?_⟩
  refine hv ρ S io F σ H _ st en (RS.go (R := RepA X.K) en h fun d S1 io1 F1 H1 v e1 n1 s1 r1 h1 => ?_)
  refine ho ρ S1 io1 F1 σ H1 _ s1 (en.nxt n1) (RS.go (R := RepA X.K) (en.nxt n1) h1 fun e S2 io2 F2 H2 w e2 n2 s2 r2 h2 => ?_)
  refine hi ρ S2 io2 F2 σ H2 _ s2 ((en.nxt n1).nxt n2) (RS.go (R := RepA X.K) ((en.nxt n1).nxt n2) h2 fun y S3 io3 F3 H3 w3 e3 n3 s3 r3 h3 => ?_)
  cases hf : frz d S3 with
  | bad => rw [hf] at h3; exact h3.elim
  | exc c x S4 => exact absurd hf (frz_nox _ _ _ _ _)
  | ok x S4 =>
    rw [hf] at h3
    have rd3 := (r1.mono n2.han n2.fr).mono n3.han n3.fr
    obtain ⟨x', Sd', F4, n4, s4, rp, hz4, _⟩ := s3.frz (C := Vl) (D := V) (R' := RepA X.K) (g := fun _ S => .ok (.p .non) S) (Q := fun _ _ => True) (E := fun _ _ _ => True) rd3 (by rw [hf]; exact fun _ _ _ _ _ _ _ => trivial)
    rw [hf] at hz4; cases hz4
    have h3 : RS X.K (match dPutS S4 y e x with
      | some S5 => .ok (.nx ρ) S5
      | none => .bad) io3 F3 H3 D W := h3
    cases hd : dPutS S4 y e x with
    | none => rw [hd] at h3; exact h3.elim
    | some S5 =>
      rw [hd] at h3
      unfold dPutS at hd
      split at hd
      · rename_i j ky
        split at hd
        · rename_i ks xs hj
          split at hd
          · rename_i hc
            cases hd
            obtain ⟨kq, hkq⟩ := Option.isSome_iff_exists.mp hc.1
            have hy : w3 = kV kq := rep_kOf hkq r3
            subst hy
            obtain ⟨a, ha, rfl⟩ := (r2.mono n3.han n3.fr).mono n4.han n4.fr
            obtain ⟨b, kvs, hb, hF, hH, hk1, hk2⟩ := s4.cel j _ hj
            rw [ha] at hb
            cases hb
            have hlen : kvs.length < sizeLine := by
              have e1 := hk1.length
              rw [List.length_map] at e1
              rw [e1]
              exact sz5l hc.2
            obtain ⟨j1, j2⟩ := dPut_rep hkq rp hk1 hk2
            refine ⟨a, _, rfl, DPut.k hH hlen, ?_⟩
            obtain ⟨s5, n5⟩ := s4.write (o := .dK (putK kvs kq v)) (c := .dct (dPutK ky ks) (dPutV ky x ks xs)) ha hF ⟨a, _, ha, hF, upd_same, j1, j2⟩
            exact h3 _ _ _ σ (n4.trans n5) s5 ((((en.nxt n1).nxt n2).nxt n3).nxt (n4.trans n5))
          · cases hd
        · cases hd
      · cases hd
end
def pListK : List P → Option P
  | [.dct ks _] => some (.lst ks)
  | _ => none
section
variable {K : PySem.W.Frag}
theorem ok_listK : CallOk K rListD pListK := by
  intro io F S H xs vs z Q st rx e k
  match xs, e with
  | [.dct ks ys], e =>
    obtain ⟨v, rfl, r1⟩ := rx.one
    obtain ⟨a, kvs, rfl, hH, h1, h2⟩ := r1
    cases e
    refine ⟨a, kvs, rfl, hH, fun p hn => ?_⟩
    obtain ⟨s3, n3⟩ := st.froze (o := .lst (kvs.map fun kv => kV kv.1)) hn
    exact k _ _ _ n3 s3 ⟨p, _, rfl, upd_same, h1.mono n3.fr⟩
end
section
variable {X : Cx} {W : WX} {a : Expr} {ma : ME} {pos p : Pos}
theorem oe_listK (hc : X.calm = true) (hm : X.mg "list" = none) (ha : OE X W a ma) (hg : Gl X "list" := by rfl) (hs : starEach [a] X.env = (false, eval a X.env) :: starEach [] X.env := by rfl) :
    OE X W (.Call (.Name "list" p) [a] [] pos) (eCall pListK (aCons ma aNil)) := oe_callTy (call_list_dK hc) ok_listK hm (by first | rfl | decide +kernel) (oa_cons ha oa_nil hs) hg (by decide) (by decide) hs rfl
end
end Mir

namespace Mir
open PySem L2
section
variable {prog : Program} {w : World} {A : Around} {E : Value → Shared → Prop} {s : Shared}
end
section
variable {X : Cx} {W : WX} {a b : Expr} {ma mb : ME} {p p2 pos pos2 : Pos}
end
end Mir

namespace Mir
open PySem L2
section
variable {K : PySem.W.Frag}
end
section
variable {X : Cx} {W : WX} {a : Expr} {ma : ME} {pos p : Pos}
end
end Mir

namespace Mir
open PySem L2
section
variable {X : Cx} {W : WX} {a b : Expr} {ma mb : ME} {p p2 pos pos2 : Pos}
end
section
variable {X : Cx} {W : WX} {pos : Pos}
end
end Mir

namespace NeK
open PySem PySem.Spec PyProof.Rows PySem.SeqAt
section
variable {M : Model} {prog : Program} {w : World} {A : Around} {E : Value → Shared → Prop} {s : Shared} {K : PySem.W.Frag} {x C f : Addr} {ox : Obj} {od : Option Obj} {b tb : Value}
end
end NeK
namespace Mir
open PySem L2
section
variable {X : Cx} {W : WX} {a b : Expr} {ma mb : ME} {x : Str} {pos : Pos} {params : Arguments} {ps : List Str} {k j : Nat} {m : MF}
end
end Mir
namespace Mir
open PySem L2
abbrev DTab := List (List Nat × P)
section
variable {X : Cx} {W : WX} {pos : Pos} {keys : List (Option Expr)} {values : List Expr}
end
def Ents (K : PySem.W.Frag) : List DictEntry → DTab → Prop
  | [], [] => True
  | e :: r, q :: t => (∃ tk, e.key = .str (strOf q.1) tk) ∧ (∃ v, RelV v e.val ∧ ∀ F, Rep K F q.2 v) ∧ Ents K r t
  | _, _ => False
def entsB (K : PySem.W.Frag) : List DictEntry → DTab → Bool
  | [], [] => true
  | e :: r, q :: t => (match e.key with
    | .str x _ => decide (x = strOf q.1)
    | _ => false) && (repK K q.2 e.val && entsB K r t)
  | _, _ => false
theorem entsB_ok {K : PySem.W.Frag} : ∀ {l : List DictEntry} {t : DTab}, entsB K l t = true → Ents K l t
  | [], [], _ => trivial
  | [], _ :: _, h => by cases h
  | _ :: _, [], h => by cases h
  | e :: r, q :: t, h => by
    obtain ⟨h1, h2⟩ := He.ba h
    obtain ⟨h3, h4⟩ := He.ba h2
    refine ⟨?_, repK_ok h3, entsB_ok h4⟩
    split at h1
    · rename_i x tk e1
      exact ⟨tk, by rw [e1, of_decide_eq_true h1]⟩
    · cases h1
def KTab (K : PySem.W.Frag) (w : World) (mg : Str → Option Value) (x : Str) (tab : DTab) : Prop := ∃ d es n, mg x = some (.ref d) ∧ KDict K w d es n ∧ Ents K es.toList tab
def tabB (K : PySem.W.Frag) (x : Str) (tab : DTab) : Bool := He.eqO (PySem.W.nsIn K mainGlobals x) (some (some (.ref (He.ga K x)))) && (match K.lookup (He.ga K x) with
  | some ⟨_, _, .dict es _, _⟩ => entsB K es.toList tab
  | _ => false)
theorem tabB_ok {K : PySem.W.Frag} {w : World} {h : Heap} {mg : Str → Option Value} (X : K.In h) (G : h.Ns mainGlobals mg) {x : Str} {tab : DTab} (c : tabB K x tab = true) (t : ∃ es n, KDict K w (He.ga K x) es n) : KTab K w mg x tab := by
  obtain ⟨c1, c2⟩ := He.ba c
  obtain ⟨es, n, D⟩ := t
  rw [D.at_] at c2
  exact ⟨_, es, n, PySem.W.mg_of X G (He.eqO_ok c1), D, entsB_ok c2⟩
def tabLook (y : List Nat) (tab : DTab) : Option P := (tab.find? fun q => q.1 == y).map (·.2)
theorem ents_find {K : PySem.W.Frag} {y : List Nat} : ∀ {l : List DictEntry} {t : DTab}, Ents K l t → (tabLook y t = none ∧ l.find? (fun e => e.key.isStr (strOf y)) = none ∧ l.any (·.refKey) = false) ∨ (∃ p e v, tabLook y t = some p ∧ l.find? (fun e => e.key.isStr (strOf y)) = some e ∧ RelV v e.val ∧ ∀ F, Rep K F p v)
  | [], [], _ => .inl ⟨rfl, rfl, rfl⟩
  | [], _ :: _, h => h.elim
  | _ :: _, [], h => h.elim
  | e :: r, q :: t, h => by
    obtain ⟨⟨tk, ek⟩, ⟨v, rv, rp⟩, hr⟩ := h
    by_cases hy : q.1 = y
    · refine .inr ⟨q.2, e, v, ?_, ?_, rv, rp⟩
      · unfold tabLook
        rw [List.find?_cons, show (q.1 == y) = true by simpa using hy]
        rfl
      · rw [List.find?_cons, ek, hy, show Value.isStr (.str (strOf y) tk) (strOf y) = true by simp [Value.isStr]]
    · have n1 : (q.1 == y) = false := by simpa using hy
      have n2 : Value.isStr (.str (strOf q.1) tk) (strOf y) = false := by
        have : ¬ (strOf q.1 = strOf y) := fun z => hy (strOf_inj z)
        simp [Value.isStr, this]
      have e1 : tabLook y (q :: t) = tabLook y t := by
        unfold tabLook
        rw [List.find?_cons, n1]
      have e2 : (e :: r).find? (fun e => e.key.isStr (strOf y)) = r.find? (fun e => e.key.isStr (strOf y)) := by
        rw [List.find?_cons, ek, n2]
      rcases ents_find (y := y) hr with ⟨a, b, c⟩ | ⟨p, e', v', a, b, c, d⟩
      · refine .inl ⟨by rw [e1, a], by rw [e2, b], ?_⟩
        rw [List.any_cons, c, Bool.or_false]
        unfold DictEntry.refKey
        rw [ek]
      · exact .inr ⟨p, e', v', by rw [e1, a], by rw [e2, b], c, d⟩
theorem tab_ns {K : PySem.W.Frag} {w : World} {d : Addr} {es : Array DictEntry} {n : Nat} (D : KDict K w d es n) {t : DTab} (E : Ents K es.toList t) (y : List Nat) :
    (tabLook y t = none ∧ PySem.W.nsIn K d (strOf y) = some none) ∨ ∃ p u v, tabLook y t = some p ∧ PySem.W.nsIn K d (strOf y) = some (some u) ∧ RelV v u ∧ ∀ F, Rep K F p v := by
  have q : PySem.W.nsIn K d (strOf y) = (match es.toList.find? (·.key.isStr (strOf y)) with
      | some e => some (some e.val)
      | none => if es.toList.any (·.refKey) then none else some none) := by
    unfold PySem.W.nsIn
    rw [D.at_]
    rfl
  rcases ents_find (y := y) E with ⟨a, b, c⟩ | ⟨p, e, v, a, b, c, f⟩
  · refine .inl ⟨a, ?_⟩
    rw [q, b, c]
    rfl
  · refine .inr ⟨p, e.val, v, a, ?_, c, f⟩
    rw [q, b]
def tabI (tab : DTab) (d : Vl) (S : Sto) : Res Vl := match d with
  | .p (.str y) => (match tabLook y tab with
    | some p => .ok (.p p) S
    | none => .bad)
  | _ => .bad
def eTabItem (tab : DTab) (i : ME) : ME := fun ρ S => (i ρ S).bind fun d S1 => tabI tab d S1
section
variable {X : Cx} {W : WX} {i f : Expr} {mi mf : ME} {ti tf : TE} {x : Str} {p0 apos cpos pos : Pos} {d : Addr} {es : Array DictEntry} {n : Nat} {tab : DTab}
theorem oe_tabItem (h : KTab X.K X.w X.mg x tab) (hi : OE X W i mi) (hs : PlainIx i := by intro _ _; rfl) (hg : Gl X x := by rfl) (hdb : (x == ("__debug__" : Str)) = false := by decide) :
    OE X W (.Subscript (.Name x p0) i pos) (eTabItem tab mi) := by
  obtain ⟨d, es, n, hm, D, E⟩ := h
  obtain ⟨ti, qi, hi⟩ := hi
  refine ⟨_, pe_ix ix_kdict (pe_glob (v := .ref d) hg hm rfl hdb) qi hs, fun ρ S io F σ H Q st en h => ?_⟩
  refine hi ρ S io F σ H _ st en (RG.bind h fun dd S1 io1 F1 H1 v e1 n1 s1 r1 h1 => ?_)
  cases dd with
  | c k => exact h1.elim
  | p y =>
    cases y with
    | str y =>
      have r1 : v = .str (strOf y) := r1
      subst r1
      have h1 : RG X.K (RepA X.K) (match tabLook y tab with
        | some p => .ok (.p p) S1
        | none => .bad) io1 F1 H1 Q (fun c d H' => W c d σ H') := h1
      rcases tab_ns D E y with ⟨a, b⟩ | ⟨p, u, v, a, b, c, g⟩
      · rw [a] at h1
        exact h1.elim
      · rw [a] at h1
        exact ⟨d, strOf y, v, rfl, rfl, ⟨es, n, u, D.at_, D.lit, b, c⟩, RG.val (R := RepA X.K) (d := .p p) s1 (g F1) h1⟩
    | _ => exact h1.elim
end
abbrev AlMT : Type := AlM × List (Option (List (Option (Str × Int))))
def obsMT (ck : PySem.W.Frag → Bool) (fn : List DefM) (ts : List He.Tab) (K : PySem.W.Frag) : AlMT := (obsM ck fn K, ts.map fun t => He.dicW K (t.1 K))
def valMT (fn : List DefM) (ts : List He.Tab) (w : World) : AlMT := (valM fn, ts.map fun t => some (He.keysIn w.params t.2))
def SaysMT (ck : PySem.W.Frag → Bool) (fn : List DefM) (ts : List He.Tab) (w : World) (K : PySem.W.Frag) : Prop := obsMT ck fn ts K = valMT fn ts w
def obsMTG (n : Nat) (ck : PySem.W.Frag → Bool) (fn : List DefM) (ts : List He.Tab) (g : Addr → Option Obj) : AlMT := obsMT ck fn ts (He.frG g (asX g n))
def hookMT (n : Nat) (ck : PySem.W.Frag → Bool) (fn : List DefM) (ts : List He.Tab) : PySem.W.Hook where
  α := AlMT
  obs := fun s => obsMTG n ck fn ts s.heap.get?
  val := fun w => valMT fn ts w
  says := fun w h => ∃ K : PySem.W.Frag, K.In h ∧ SaysMT ck fn ts w K
  of := fun _ _ e => ⟨_, He.frG_in, e⟩
  keeps := fun _ _ _ ⟨K, hK, c⟩ k => ⟨K, PySem.W.Frag.In.keeps hK k, c⟩
theorem obsMTG_eq {n : Nat} {ck : PySem.W.Frag → Bool} {fn : List DefM} {ts : List He.Tab} {g : Addr → Option Obj} {s : Shared} (h : ∀ a, g a = s.heap.get? a) : obsMTG n ck fn ts g = (hookMT n ck fn ts).obs s := by
  have e : g = s.heap.get? := funext h
  rw [e] <;> rfl
section
variable {ck : PySem.W.Frag → Bool} {fn : List DefM} {ts : List He.Tab} {w : World} {K : PySem.W.Frag}
theorem SaysMT.m (c : SaysMT ck fn ts w K) : SaysM ck fn K := congrArg (fun z : AlMT => z.1) c
theorem SaysMT.tab (c : SaysMT ck fn ts w K) (i : Nat) {t : He.Tab} (h : ts[i]? = some t := by rfl) : ∃ es n, KDict K w (t.1 K) es n := by
  have e : ts.map (fun t => He.dicW K (t.1 K)) = ts.map fun t => some (He.keysIn w.params t.2) := congrArg (fun z : AlMT => z.2) c
  have e2 : (ts.map fun t => He.dicW K (t.1 K))[i]? = (ts.map fun t => some (He.keysIn w.params t.2))[i]? := by rw [e]
  rw [List.getElem?_map, List.getElem?_map, h] at e2
  exact He.dicW_ok (Option.some.inj e2)
end
end Mir

namespace Mir
open PySem L2
theorem each_vals : ∀ {bs : List (V × PyData)} {its : List Value}, Vals (bs.map (·.1)) its → PySem.W.EachIs (fun v b => RelV b.1 v) its bs
  | [], _, r => by cases r; exact .nil
  | b :: bs, _, r => by
    cases r with
    | cons h t => exact .cons h (each_vals t)
theorem vals_each : ∀ {bs : List (V × PyData)} {its : List Value}, PySem.W.EachIs (fun v b => RelV b.1 v) its bs → Vals (bs.map (·.1)) its
  | _, _, .nil => .nil
  | _, _, .cons h t => .cons h (vals_each t)
section
variable {X : Cx} {k : Nat}
end
def leD : P → P → Bool := PySem.W.dataLe false P.toD
theorem repL_all {K : PySem.W.Frag} {F : Hp} : ∀ ms : List (V × P), (∀ c ∈ ms, Rep K F c.2 c.1) → RepL K F (ms.map (·.2)) (ms.map (·.1))
  | [], _ => .nil
  | c :: ms, h => .cons (h c (List.mem_cons_self ..)) (repL_all ms fun d hd => h d (List.mem_cons_of_mem _ hd))
theorem repL_zip {K : PySem.W.Frag} {F : Hp} : ∀ {ps : List P} {vs : List V}, RepL K F ps vs → (∀ c ∈ vs.zip ps, Rep K F c.2 c.1) ∧ (vs.zip ps).map (·.1) = vs ∧ (vs.zip ps).map (·.2) = ps
  | [], _, r => by
    have r : _ = _ := r
    subst r
    exact ⟨fun c hc => absurd hc List.not_mem_nil, rfl, rfl⟩
  | p :: ps, _, r => by
    obtain ⟨v, vs, rfl, r, t⟩ := r
    obtain ⟨h1, h2, h3⟩ := repL_zip t
    refine ⟨fun c hc => ?_, ?_, ?_⟩
    · rcases List.mem_cons.mp hc with e | e
      · subst e; exact r
      · exact h1 c e
    · show v :: (vs.zip ps).map (·.1) = v :: vs
      rw [h2]
    · show p :: (vs.zip ps).map (·.2) = p :: ps
      rw [h3]
theorem alike_strs : ∀ {xs ys : List P}, xs.all isStrP = true → ys.all isStrP = true → PySem.W.alikeAll (toDL xs) (toDL ys) = true
  | [], _, _, _ => by first | rfl | (unfold toDL PySem.W.alikeAll; rfl) | simp [toDL, PySem.W.alikeAll]
  | _ :: _, [], _, _ => by first | rfl | simp [toDL, PySem.W.alikeAll]
  | x :: xs, y :: ys, h1, h2 => by
    rw [List.all_cons, Bool.and_eq_true] at h1 h2
    cases x with
    | str a =>
      cases y with
      | str b =>
        have ih := alike_strs h1.2 h2.2
        show (PySem.W.alike (.str (strOf a)) (.str (strOf b)) && PySem.W.alikeAll (toDL xs) (toDL ys)) = true
        rw [ih]
        simp [PySem.W.alike]
      | _ => exact absurd h2.1 (by simp [isStrP])
    | _ => exact absurd h1.1 (by simp [isStrP])
section
variable {K : PySem.W.Frag}
end
section
variable {X : Cx} {W : WX} {a : Expr} {ma : ME} {pos p : Pos} {k : Nat}
end
end Mir

namespace EqM
open PySem PySem.Spec PyProof.Rows PySem.SeqAt
open AutoSeq1 (wpAny_loadPart')
section
variable {prog : Program} {w : World} {A : Around} {E : Value → Shared → Prop} {s : Shared} {K : PySem.W.Frag} {y C : Addr} {oy : Obj} {od : Option Obj}
end
end EqM

namespace EqM
open PySem PySem.Spec PyProof.Rows PySem.SeqAt
section
variable {prog : Program} {w : World} {A : Around} {E : Value → Shared → Prop} {s : Shared} {K : PySem.W.Frag} {y C f : Addr} {oy : Obj} {od : Option Obj}
end
end EqM

namespace Mir
open PySem L2
section
variable {X : Cx} {pins : List (Addr × Obj)} {σ : St} {H : Hp} {s : Shared}
end
section
variable {X : Cx} {W : WX} {a b : Expr} {ma mb : ME} {x : Str} {pos : Pos} {params : Arguments} {ps : List Str} {k j : Nat} {m : MF}
end
end Mir

namespace Mir
open PySem PySem.Spec PyProof.Rows L2
section
variable {X : Cx}
def tRev (K : PySem.W.Frag) (te : TE) : TE := fun σ H Q => te σ H fun x H1 => (∃ z : Str, x = .str z ∧ z.length ≤ sizeLine ∧ Q (.str ⟨z.cps.toList.reverse.toArray⟩) H1) ∨ ∃ a xs, x = .ref a ∧ SqL K H1 a xs ∧ ∀ p, H1 p = none → Q (.ref p) (upd H1 p (.lst xs.reverse))
theorem idx_rev (n : Nat) : Builtin.Str.strSliceIndices none none (-1) n = (List.range n).reverse := by
  show sliceRange ((n : Int) - 1) (-1) (-1) = _
  rw [PySem.W.krv_sliceRange, PySem.W.krv_range]
theorem pe_rev {e : Expr} {te : TE} {k : Nat} {p1 p2 p3 pos : Pos} (he : PE X e te) : PE X (.Subscript e (.Slice none none (some (.UnaryOp .USub (.Constant (.int 1) k p1) p2)) p3) pos) (tRev X.K te) := by
  refine ⟨fun pins s σ H Q I h => ?_⟩
  refine Subscript_ (thn (he.run pins s σ H _ I h) fun v s1 ⟨x, H1, I1, r1, q1⟩ => ?_)
  have hst : PO X (some (.UnaryOp .USub (.Constant (.int 1) k p1) p2)) (tPart (tUn (rU fun i => .int (-i)) (tC (.int 1)))) := po_some (pe_un un_neg pe_int)
  refine wpAny_Slice (thn (po_none.run pins s1 σ H1 (fun o H2 => o = none ∧ H2 = H1) I1 ⟨rfl, rfl⟩) fun vl s2 ⟨l, H2, I2, pl, el, e2⟩ => ?_)
  subst el e2
  refine thn (po_none.run pins s2 σ H2 (fun o H3 => o = none ∧ H3 = H2) I2 ⟨rfl, rfl⟩) fun vu s3 ⟨u, H3, I3, pu, eu, e3⟩ => ?_
  subst eu e3
  refine thn (hst.run pins s3 σ H3 (fun o H4 => o = some (-1) ∧ H4 = H3) I3 ⟨1, rfl, -1, rfl, rfl, rfl⟩) fun vs s4 ⟨o, H4, I4, ps, eo, e4⟩ => ?_
  subst eo e4
  have I5 : Inv X pins σ H4 { s4 with heap := s4.heap.push { cls := .type "slice", data := .fields #[vl, vu, vs] } } := I4.kept (t' := s4.toks) fun b ob q => Heap.get?_push_of_some _ q
  rcases q1 with ⟨z, rfl, hz, q⟩ | ⟨a, xs, rfl, hx, q⟩
  · obtain ⟨t, rfl⟩ := r1
    cases pl
    cases pu
    cases ps with
    | int i t2 =>
      show wpAny (model X.prog X.w) X.A (subscriptTail e (.Slice none none (some (.UnaryOp .USub (.Constant (.int 1) k p1) p2)) p3) (.str z t) (.ref s4.heap.objs.size)) (EP X pins σ Q) X.xe { s4 with heap := s4.heap.push { cls := .type "slice", data := .fields #[.none, .none, .int (-1) t2] } }
      refine tail_any (ops := [.str z t, .ref s4.heap.objs.size]) (typeIs_str _ _ _) (PySem.F.slot_str_getitem.lookup) ?_ (by with_unfolding_all rfl)
      refine wpAny_getItem_str_slice (l := none) (u := none) (st := some (-1, t2)) ⟨_, Heap.get?_push_size _ rfl, rfl, rfl⟩ rfl ?_
      have hm : sliceMade z t none none (some (-1, t2)) = .str ⟨z.cps.toList.reverse.toArray⟩ := by
        show (if (((-1 : Int) == 1) && _) = true then _ else Made.str ⟨((Builtin.Str.strSliceIndices none none (-1) z.length).filterMap (z.cps[·]?)).toArray⟩) = _
        rw [show ((-1 : Int) == 1) = false from rfl, Bool.false_and, if_neg (by decide), idx_rev, List.filterMap_reverse]
        have e := PySem.W.krv_all z.cps
        rw [show z.length = z.cps.size from rfl, e]
      rw [hm]
      have hl : (⟨z.cps.toList.reverse.toArray⟩ : Str).length ≤ sizeLine := by
        show z.cps.toList.reverse.toArray.size ≤ sizeLine
        rw [List.size_toArray, List.length_reverse]
        exact hz
      exact ⟨hl, ⟨.str _, H4, I5.tok _, ⟨_, rfl⟩, q⟩⟩
  · cases r1
    obtain ⟨its, r, ht, hz⟩ := I5.list hx
    have hlen := r.length
    show wpAny (model X.prog X.w) X.A (subscriptTail e (.Slice none none (some (.UnaryOp .USub (.Constant (.int 1) k p1) p2)) p3) (.ref a) (.ref s4.heap.objs.size)) (EP X pins σ Q) X.xe { s4 with heap := s4.heap.push { cls := .type "slice", data := .fields #[vl, vu, vs] } }
    refine tail_any (ops := [.ref a, .ref s4.heap.objs.size]) ht.isList.typeIs (PySem.slot_list_getitem.lookup) ?_ (by with_unfolding_all rfl)
    refine wpAny_getItem_list_slice ht.isList (Heap.IsSliceOf.new _ vl vu vs) pl pu ps (by decide) ?_ (by rw [List.size_toArray]; omega)
    rw [PySem.W.krv_pick]
    refine ⟨.ref _, _, I5.laid (t' := s4.toks) (o := .lst xs.reverse) (fun b ob q => Heap.get?_push_of_some _ q) (Nat.le_refl _) ?_, rfl, q _ (I5.hok.fresh (Nat.le_refl _))⟩
    exact ⟨by rw [List.length_reverse]; exact hz, _, 0, r.reverse, Heap.get?_push_size _ rfl⟩
end
def pRev : P → Option P
  | .str x => if x.length ≤ 100000 then some (.str x.reverse) else none
  | .lst xs => some (.lst xs.reverse)
  | _ => none
section
variable {X : Cx} {W : WX} {e : Expr} {me : ME}
theorem oe_rev {k : Nat} {p1 p2 p3 pos : Pos} (he : OE X W e me) : OE X W (.Subscript e (.Slice none none (some (.UnaryOp .USub (.Constant (.int 1) k p1) p2)) p3) pos) (eUn pRev me) := by
  obtain ⟨t, p, he⟩ := he
  refine ⟨_, pe_rev p, fun ρ S io F σ H Q st en h => ?_⟩
  refine he ρ S io F σ H _ st en (RG.bind h fun d S1 io1 F1 H1 v e1 n1 s1 r1 h1 => ?_)
  unfold op1 at h1
  cases e2 : rd S1 d with
  | none => rw [e2] at h1; exact h1.elim
  | some y =>
    rw [e2] at h1
    have rr := s1.rd r1 e2
    cases y with
    | str z =>
      have rr : v = .str (strOf z) := rr
      subst rr
      have h1 : RG X.K (RepA X.K) (match (if z.length ≤ 100000 then some (P.str z.reverse) else none) with
        | some z => Res.ok (.p z) S1
        | none => .bad) io1 F1 H1 Q (fun c d H' => W c d σ H') := h1
      by_cases hz : z.length ≤ 100000
      · rw [if_pos hz] at h1
        have hl : (strOf z).length = z.length := by
          show z.toArray.size = _
          exact List.size_toArray ..
        refine .inl ⟨strOf z, rfl, by rw [hl]; exact sz5 hz, RG.val (R := RepA X.K) (d := .p (.str z.reverse)) s1 ?_ h1⟩
        show V.str _ = V.str _
        unfold strOf
        rfl
      · rw [if_neg hz] at h1; exact h1.elim
    | lst zs =>
      obtain ⟨a, vs, rfl, hH, hr⟩ := rr
      refine .inr ⟨a, vs, rfl, SqL.of hH, fun q hq => ?_⟩
      obtain ⟨s3, n3⟩ := s1.froze (o := .lst vs.reverse) hq
      exact h1 io1 _ _ (.ref q) n3 s3 ⟨q, vs.reverse, rfl, upd_same, RepL.mono n3.fr hr.reverse⟩
    | _ => exact h1.elim
end
section
variable {X : Cx} {W : WX} {pos : Pos}
end
section
variable {K : PySem.W.Frag}
end
section
variable {X : Cx} {W : WX} {a : Expr} {ma : ME} {pos p : Pos}
end
section
variable {X : Cx} {W : WX} {a : Expr} {ma : ME} {x : Str} {pos p : Pos} {params : Arguments} {ps : List Str} {k j : Nat} {m : MF}
end
end Mir

namespace Mir
open PySem L2
section
variable {X : Cx} {W : WX} {mks : MA} {x : Str} {p pos : Pos} {params : Arguments} {ps ks : List Str} {k j : Nat} {m : MF} {kws : List Keyword} {kp : Bool}
end
end Mir

namespace Mir
open PySem L2
section
variable {X : Cx} {pins : List (Addr × Obj)} {σ : St} {H F : Hp} {s : Shared}
mutual
theorem Rep.nest (I : Inv X pins σ H s) (e : Same F H) : ∀ {x : P} {v : V} {k : NestedKey} {u : Value}, nkOf x = some k → Rep X.K F x v → RelV v u → NestedIs s.heap k u
  | .non, v, k, u, hk, r, rv => by
    cases hk
    have r : v = _ := r
    subst r
    cases (show u = Value.none from rv)
    exact .none
  | .bl b, v, k, u, hk, r, rv => by
    cases hk
    have r : v = _ := r
    subst r
    cases (show u = Value.bool b from rv)
    exact .bool rfl
  | .int i, v, k, u, hk, r, rv => by
    cases hk
    have r : v = _ := r
    subst r
    obtain ⟨t, rfl⟩ := (show ∃ t, u = Value.int i t from rv)
    exact .int i t
  | .str x, v, k, u, hk, r, rv => by
    cases hk
    have r : v = _ := r
    subst r
    obtain ⟨t, rfl⟩ := (show ∃ t, u = Value.str (strOf x) t from rv)
    exact .text _ t
  | .tup xs, v, k, u, hk, r, rv => by
    have hk : (match nkL xs with
      | some ks => some (NestedKey.tup ks)
      | none => none) = some k := hk
    cases hl : nkL xs with
    | none => rw [hl] at hk; cases hk
    | some ks =>
      rw [hl] at hk
      cases hk
      obtain ⟨a, vs, rfl, h1, h2⟩ := r
      cases (show u = Value.ref a from rv)
      obtain ⟨its, rl, ⟨o, g1, g2, n, g3⟩, _⟩ := I.tuple (sqt_mono e h1)
      exact .tup g1 g2 g3 (by simpa using RepL.nest I e hl h2 rl)
  | .lst _, _, _, _, hk, _, _ => by cases hk
  | .dct _ _, _, _, _, hk, _, _ => by cases hk
  | .obj _ _ _, _, _, _, hk, _, _ => by cases hk
  | .ty _, _, _, _, hk, _, _ => by cases hk
  | .glo _, _, _, _, hk, _, _ => by cases hk
  | .raw _, _, _, _, hk, _, _ => by cases hk
  | .rwp _ _, _, _, _, hk, _, _ => by cases hk
  | .scr _, _, _, _, hk, _, _ => by cases hk
theorem RepL.nest (I : Inv X pins σ H s) (e : Same F H) : ∀ {xs : List P} {vs : List V} {ks : List NestedKey} {us : List Value}, nkL xs = some ks → RepL X.K F xs vs → Vals vs us → NestedAll s.heap ks us
  | [], vs, ks, us, hk, r, rv => by
    cases hk
    have r : vs = [] := r
    subst r
    cases rv
    exact .nil
  | x :: xs, vs, ks, us, hk, r, rv => by
    have hk : (match nkOf x, nkL xs with
      | some k, some ks => some (k :: ks)
      | _, _ => none) = some ks := hk
    cases h1 : nkOf x with
    | none => rw [h1] at hk; cases hk
    | some k =>
      cases h2 : nkL xs with
      | none => rw [h1, h2] at hk; cases hk
      | some ks' =>
        rw [h1, h2] at hk
        cases hk
        obtain ⟨v, r', e1, r1, r2⟩ := r
        subst e1
        cases rv with
        | cons q1 q2 => exact .cons (Rep.nest I e h1 r1 q1) (RepL.nest I e h2 r2 q2)
end
theorem nest_keys (I : Inv X pins σ H s) (e : Same F H) : ∀ {ks : List P} {es : List (NestedKey × Addr × V)}, nkL ks = some (es.map (·.1)) → RepL X.K F ks (es.map fun e => V.ref e.2.1) → ∀ x ∈ es, NestedIs s.heap x.1 (.ref x.2.1)
  | [], [], _, _, x, hx => by cases hx
  | [], y :: es, hk, _, x, hx => by cases hk
  | k :: ks, [], hk, r, x, hx => by cases hx
  | k :: ks, y :: es, hk, r, x, hx => by
    have hk : (match nkOf k, nkL ks with
      | some k, some ks => some (k :: ks)
      | _, _ => none) = some (y.1 :: es.map (·.1)) := hk
    cases h1 : nkOf k with
    | none => rw [h1] at hk; cases hk
    | some k' =>
      cases h2 : nkL ks with
      | none => rw [h1, h2] at hk; cases hk
      | some ks' =>
        rw [h1, h2] at hk
        have hk := Option.some.inj hk
        obtain ⟨e1, e2⟩ := List.cons.inj hk
        obtain ⟨v, r', e3, r1, r2⟩ := r
        obtain ⟨e4, e5⟩ := List.cons.inj e3
        subst e4 e5
        rcases List.mem_cons.mp hx with z | z
        · subst z
          rw [← e1]
          exact Rep.nest I e h1 r1 rfl
        · exact nest_keys I e (by rw [h2, e2]) r2 x z
abbrev PrN : List (NestedKey × Addr × V) → List (NestedKey × Addr × Value) → Prop := Paired (fun (p : NestedKey × Addr × V) (q : NestedKey × Addr × Value) => p.1 = q.1 ∧ p.2.1 = q.2.1 ∧ RelV p.2.2 q.2.2)
theorem paired_mem : ∀ {es : List (NestedKey × Addr × V)} {xs : List (NestedKey × Addr × Value)}, PrN es xs → ∀ q ∈ xs, ∃ p' ∈ es, p'.1 = q.1 ∧ p'.2.1 = q.2.1
  | _, _, .nil, q, hq => by cases hq
  | _, _, .cons c t, q, hq => by
    rcases List.mem_cons.mp hq with e | e
    · subst e
      exact ⟨_, List.mem_cons_self .., c.1, c.2.1⟩
    · obtain ⟨p', hp, r1, r2⟩ := paired_mem t q e
      exact ⟨p', List.mem_cons_of_mem _ hp, r1, r2⟩
theorem paired_mem2 : ∀ {es : List (NestedKey × Addr × V)} {xs : List (NestedKey × Addr × Value)}, PrN es xs → ∀ p' ∈ es, ∃ q ∈ xs, p'.1 = q.1
  | _, _, .nil, q, hq => by cases hq
  | _, _, .cons c t, q, hq => by
    rcases List.mem_cons.mp hq with e | e
    · subst e
      exact ⟨_, List.mem_cons_self .., c.1⟩
    · obtain ⟨p', hp, r1⟩ := paired_mem2 t q e
      exact ⟨p', List.mem_cons_of_mem _ hp, r1⟩
theorem dn_of {a : Addr} {es : List (NestedKey × Addr × V)} {ks : List P} (I : Inv X pins σ H s) (e : Same F H) (ha : H a = some (DNo (fun k => k.hash X.w) a es)) (hk : nkL ks = some (es.map (·.1))) (r : RepL X.K F ks (es.map fun e => V.ref e.2.1)) :
    es.length ≤ sizeLine ∧ (a == sysModules) = false ∧ (∀ x ∈ es, x.1.depth ≤ 8) ∧ ∃ xs : List (NestedKey × Addr × Value), Paired (fun (p : NestedKey × Addr × V) (q : NestedKey × Addr × Value) => p.1 = q.1 ∧ p.2.1 = q.2.1 ∧ RelV p.2.2 q.2.2) es xs ∧ s.heap.DictOfH (nestedKind X.prog X.w) a xs := by
  have x : ObjOk X.prog X.w H s.heap a (.ext _) := I.hok a _ ha
  obtain ⟨z, y, xs, p, ds, ep, ⟨o, h1, h2, h3⟩, h4, h5, h6⟩ := x.1
  have key := nest_keys I e hk r
  have mem := paired_mem p
  have mem2 := paired_mem2 p
  refine ⟨z, y, fun x hx => ?_, xs, p, o, ds, ep, h1, h2, h3, h4, fun q hq => ?_, h5⟩
  · obtain ⟨q, hq, e⟩ := mem2 x hx
    rw [e]
    exact h6 q hq
  · obtain ⟨p', hp, r1, r2⟩ := mem q hq
    refine ⟨?_, h6 q hq⟩
    rw [← r1, ← r2]
    exact key p' hp
theorem paired_at {es : List (NestedKey × Addr × V)} {xs : List (NestedKey × Addr × Value)} (p : Paired (fun (p : NestedKey × Addr × V) (q : NestedKey × Addr × Value) => p.1 = q.1 ∧ p.2.1 = q.2.1 ∧ RelV p.2.2 q.2.2) es xs) (k : NestedKey) :
    (es.find? (fun x => decide (x.1 = k)) = none ∧ atKey xs k = none) ∨ ∃ x q, es.find? (fun x => decide (x.1 = k)) = some x ∧ atKey xs k = some q ∧ RelV x.2.2 q.2 := by
  induction p with
  | nil => exact .inl ⟨rfl, rfl⟩
  | @cons x q es' xs' c t ih =>
    by_cases h : x.1 = k
    · refine .inr ⟨x, q.2, ?_, ?_, c.2.2⟩
      · rw [List.find?_cons, decide_eq_true h]
      · unfold atKey
        rw [List.find?_cons, decide_eq_true (by rw [← c.1]; exact h)]
        rfl
    · have h' : ¬ q.1 = k := by rw [← c.1]; exact h
      have e1 : (x :: es').find? (fun x => decide (x.1 = k)) = es'.find? (fun x => decide (x.1 = k)) := by rw [List.find?_cons, decide_eq_false h]
      have e2 : atKey (q :: xs') k = atKey xs' k := by
        unfold atKey
        rw [List.find?_cons, decide_eq_false h']
      rw [e1, e2]
      exact ih
theorem dn_new {P : Program} {w : World} {H : Hp} {h : Heap} {a : Addr} {es : List (NestedKey × Addr × V)} {xs : List (NestedKey × Addr × Value)} (z : es.length ≤ sizeLine) (y : (a == sysModules) = false) (p : Paired (fun (p : NestedKey × Addr × V) (q : NestedKey × Addr × Value) => p.1 = q.1 ∧ p.2.1 = q.2.1 ∧ RelV p.2.2 q.2.2) es xs)
    (hd : ∀ x ∈ xs, x.1.depth ≤ 8) (m : h.DictOfH (nestedKind P w) a xs) : ObjOk P w H h a (DNo (fun k => k.hash w) a es) := by
  obtain ⟨o, ds, ep, h1, h2, h3, h4, h5, h6⟩ := m
  refine ⟨⟨z, y, xs, p, ds, ep, ⟨o, h1, h2, h3⟩, h4, h6, hd⟩, ⟨o, h1⟩, fun g1 g2 q k => ?_⟩
  obtain ⟨z, y, xs, p, ds, ep, ⟨o, h1, r⟩, q2⟩ := q
  exact ⟨z, y, xs, p, ds, ep, ⟨o, k _ h1, r⟩, q2⟩
end
section
variable {X : Cx} {W : WX} {pos : Pos}
def tDNewN (w : World) : TE := fun _ H Q => ∀ p, H p = none → Q (.ref p) (upd H p (DNo (fun k => k.hash w) p []))
theorem pe_dnewN : PE X (.Dict [] [] pos) (tDNewN X.w) := ⟨fun pins s σ H Q I h =>
  wpAny_Dict_empty ⟨.ref s.heap.objs.size, _, I.laid (a := s.heap.objs.size) (o := DNo (fun k => k.hash X.w) s.heap.objs.size []) (t' := s.toks) (fun _ _ q => Heap.get?_push_of_some _ q) (Nat.le_refl _)
    (dn_new (Nat.zero_le _) (beq_eq_false_iff_ne.mpr (Ne.symm (Nat.ne_of_lt I.big))) .nil (fun x hx => by cases hx) (Heap.DictOfH.new _)), rfl, h _ (I.hok.fresh (Nat.le_refl _))⟩⟩
end
end Mir

namespace Mir
open PySem L2
def DnAt (K : PySem.W.Frag) (η : NestedKey → Int) (H : Hp) (a : Addr) (es : List (NestedKey × Addr × V)) : Prop := ∃ F ks, Same F H ∧ H a = some (DNo η a es) ∧ nkL ks = some (es.map (·.1)) ∧ RepL K F ks (es.map fun e => V.ref e.2.1)
def NkAt (K : PySem.W.Frag) (H : Hp) (b : Addr) (k : NestedKey) : Prop := ∃ F kp, Same F H ∧ nkOf kp = some k ∧ Rep K F kp (.ref b) ∧ k.depth ≤ 8
def nAt (k : NestedKey) : List P → List P → Option P
  | kk :: ks, x :: xs => if nkOf kk = some k then some x else nAt k ks xs
  | _, _ => none
theorem nAt_ok {K : PySem.W.Frag} {F : Hp} (k : NestedKey) : ∀ {ks xs : List P} {es : List (NestedKey × Addr × V)}, nkL ks = some (es.map (·.1)) → RepL K F xs (es.map (·.2.2)) →
    (nAt k ks xs = none ∧ es.find? (fun x => decide (x.1 = k)) = none) ∨ ∃ y x, nAt k ks xs = some y ∧ es.find? (fun x => decide (x.1 = k)) = some x ∧ Rep K F y x.2.2
  | [], xs, [], _, r => by
    refine .inl ⟨?_, rfl⟩
    cases xs <;> rfl
  | [], xs, e :: es, hk, _ => by cases hk
  | kk :: ks, xs, [], hk, r => by
    have hk : (match nkOf kk, nkL ks with
      | some k, some ks => some (k :: ks)
      | _, _ => none) = some [] := hk
    split at hk
    · cases hk
    · cases hk
  | kk :: ks, [], e :: es, hk, r => by
    have := r.length
    simp at this
  | kk :: ks, x :: xs, e :: es, hk, r => by
    have hk : (match nkOf kk, nkL ks with
      | some k, some ks => some (k :: ks)
      | _, _ => none) = some (e.1 :: es.map (·.1)) := hk
    cases h1 : nkOf kk with
    | none => rw [h1] at hk; cases hk
    | some k' =>
      cases h2 : nkL ks with
      | none => rw [h1, h2] at hk; cases hk
      | some ks' =>
        rw [h1, h2] at hk
        obtain ⟨e1, e2⟩ := List.cons.inj (Option.some.inj hk)
        obtain ⟨v, r', e3, r1, r2⟩ := r
        obtain ⟨e4, e5⟩ := List.cons.inj e3
        subst e4 e5
        by_cases h : e.1 = k
        · refine .inr ⟨x, e, ?_, ?_, r1⟩
          · show (if nkOf kk = some k then some x else _) = _
            rw [if_pos (by rw [h1, e1, h])]
          · rw [List.find?_cons, decide_eq_true h]
        · have a1 : nAt k (kk :: ks) (x :: xs) = nAt k ks xs := by
            show (if nkOf kk = some k then some x else _) = _
            rw [if_neg (by rw [h1, e1]; exact fun z => h (Option.some.inj z))]
          have a2 : (e :: es).find? (fun x => decide (x.1 = k)) = es.find? (fun x => decide (x.1 = k)) := by rw [List.find?_cons, decide_eq_false h]
          rw [a1, a2]
          exact nAt_ok k (by rw [h2, e2]) r2
theorem nkL_app : ∀ {ks : List P} {l : List NestedKey} {kp : P} {k : NestedKey}, nkL ks = some l → nkOf kp = some k → nkL (ks ++ [kp]) = some (l ++ [k])
  | [], l, kp, k, h, h2 => by
    cases h
    show (match nkOf kp, nkL [] with
      | some k, some ks => some (k :: ks)
      | _, _ => none) = _
    rw [h2]
    rfl
  | x :: ks, l, kp, k, h, h2 => by
    have h : (match nkOf x, nkL ks with
      | some k, some ks => some (k :: ks)
      | _, _ => none) = some l := h
    cases h3 : nkOf x with
    | none => rw [h3] at h; cases h
    | some k1 =>
      cases h4 : nkL ks with
      | none => rw [h3, h4] at h; cases h
      | some l1 =>
        rw [h3, h4] at h
        cases h
        show (match nkOf x, nkL (ks ++ [kp]) with
          | some k, some ks => some (k :: ks)
          | _, _ => none) = _
        rw [h3, nkL_app h4 h2]
        rfl
section
variable {X : Cx} {pins : List (Addr × Obj)} {σ : St} {H : Hp} {s : Shared} {a b : Addr} {es : List (NestedKey × Addr × V)} {k : NestedKey}
theorem dnAt_of (I : Inv X pins σ H s) (d : DnAt X.K (fun k => k.hash X.w) H a es) : es.length ≤ sizeLine ∧ (a == sysModules) = false ∧ (∀ x ∈ es, x.1.depth ≤ 8) ∧ ∃ xs : List (NestedKey × Addr × Value), Paired (fun (p : NestedKey × Addr × V) (q : NestedKey × Addr × Value) => p.1 = q.1 ∧ p.2.1 = q.2.1 ∧ RelV p.2.2 q.2.2) es xs ∧ s.heap.DictOfH (nestedKind X.prog X.w) a xs := by
  obtain ⟨F, ks, e, ha, hk, r⟩ := d
  exact dn_of I e ha hk r
theorem nkAt_of (I : Inv X pins σ H s) (n : NkAt X.K H b k) : (nestedKind X.prog X.w).is s.heap k b := by
  obtain ⟨F, kp, e, hk, r, hd⟩ := n
  exact ⟨Rep.nest I e hk r rfl, hd⟩
theorem paired_app {es : List (NestedKey × Addr × V)} {xs : List (NestedKey × Addr × Value)} {p : NestedKey × Addr × V} {q : NestedKey × Addr × Value} (h : Paired (fun (p : NestedKey × Addr × V) (q : NestedKey × Addr × Value) => p.1 = q.1 ∧ p.2.1 = q.2.1 ∧ RelV p.2.2 q.2.2) es xs) (c : p.1 = q.1 ∧ p.2.1 = q.2.1 ∧ RelV p.2.2 q.2.2) :
    Paired (fun (p : NestedKey × Addr × V) (q : NestedKey × Addr × Value) => p.1 = q.1 ∧ p.2.1 = q.2.1 ∧ RelV p.2.2 q.2.2) (es ++ [p]) (xs ++ [q]) := by
  induction h with
  | nil => exact .cons c .nil
  | cons d t ih => exact .cons d ih
theorem setd_run {z : V} {r : Value} {Q : VK} (hu : X.A.units + 100 < cLine) (I : Inv X pins σ H s) (d : DnAt X.K (fun k => k.hash X.w) H a es) (n : NkAt X.K H b k) (rz : RelV z r) (hl : es.length < sizeLine)
    (h1 : ∀ x, es.find? (fun x => decide (x.1 = k)) = some x → Q x.2.2 H) (h2 : es.find? (fun x => decide (x.1 = k)) = none → Q z (upd H a (DNo (fun k => k.hash X.w) a (es ++ [(k, b, z)])))) :
    wpAny (model X.prog X.w) X.A (call (.builtin "dict.setdefault") [.ref a, .ref b, r]) (EP X pins σ Q) X.xe s := by
  obtain ⟨z1, y, dp, xs, p, m⟩ := dnAt_of I d
  have hlen := p.length
  have hz : xs.length ≤ sizeLine := by rw [← hlen]; exact z1
  have ha : H a = some (DNo (fun k => k.hash X.w) a es) := by obtain ⟨_, _, _, h, _⟩ := d; exact h
  refine call_setdefault_heap (hsz := hz) (knd := nestedKind X.prog X.w) (show X.A.in1.units + 8 < cLine by show X.A.units + 1 + 8 < cLine; omega) (nkAt_of I n) y m (fun q hq => ?_) fun hn h' m' hs => ?_
  · rcases paired_at p k with ⟨_, e2⟩ | ⟨x, q', e1, e2, rv⟩
    · rw [hq] at e2; cases e2
    · rw [hq] at e2
      cases e2
      exact ⟨x.2.2, H, I.tok _, rv, h1 x e1⟩
  · rcases paired_at p k with ⟨e1, _⟩ | ⟨x, q', e1, e2, rv⟩
    · rw [storedH_new hn] at m'
      have dd : ∀ x ∈ xs ++ [(k, b, r)], x.1.depth ≤ 8 := fun x hx => by
        rcases List.mem_append.mp hx with w | w
        · obtain ⟨_, _, _, _, _, _, _, q5, _⟩ := m
          exact (q5 x w).2
        · rw [List.mem_singleton] at w
          subst w
          exact (nkAt_of I n).2
      have he : ∃ q, h'.get? a = some q := by obtain ⟨o, _, _, ho, _⟩ := m'; exact ⟨o, ho⟩
      exact ⟨z, _, I.write (t' := s.toks + (nestedKind X.prog X.w).draws k) (x := a) (e := a) (o := DNo (fun k => k.hash X.w) a (es ++ [(k, b, z)])) (by rw [ha]; exact True.intro) (.inl rfl) (fun c u hc q => (hs.2 c hc).trans q) he (dn_new (by rw [List.length_append]; exact hl) y (paired_app p ⟨rfl, rfl, rz⟩) dd m'), rz, h2 e1⟩
    · rw [hn] at e2; cases e2
end
def tSetdN (K : PySem.W.Frag) (η : NestedKey → Int) (td ty tx : TE) : TE := fun σ H Q => td σ H fun x H1 => ∃ a es0, x = .ref a ∧ DnAt K η H1 a es0 ∧ ty σ H1 fun y H2 => tx σ H2 fun z H3 => ∃ es b k, DnAt K η H3 a es ∧ y = .ref b ∧ NkAt K H3 b k ∧ es.length < sizeLine ∧
  (∀ x, es.find? (fun x => decide (x.1 = k)) = some x → Q x.2.2 H3) ∧ (es.find? (fun x => decide (x.1 = k)) = none → Q z (upd H3 a (DNo η a (es ++ [(k, b, z)]))))
noncomputable def sameH (a b : NestedKey → Int) : Bool := @decide (a = b) (Classical.propDecidable _)
theorem sameH_ok {a b : NestedKey → Int} (h : sameH a b = true) : a = b := @of_decide_eq_true _ (Classical.propDecidable _) h
noncomputable def isDN (η : NestedKey → Int) (S : Sto) : Vl → Bool
  | .c j => (match S[j]? with
    | some (.dcN η' _ _) => sameH η' η
    | _ => false)
  | _ => false
def isTup : P → Bool
  | .tup _ => true
  | _ => false
def nkD (kp : P) : Option NestedKey := if isTup kp then (nkOf kp).bind fun k => if k.depth ≤ 8 then some k else none else none
theorem Sta.dn {K : PySem.W.Frag} {io : Io} {F H : Hp} {S : Sto} {η : NestedKey → Int} (st : Sta K io F S H) {d : Vl} {v : V} (r : RepV K io F d v) (h : isDN η S d = true) : ∃ a es, v = .ref a ∧ DnAt K η H a es := by
  cases d with
  | p x => cases h
  | c j =>
    unfold isDN at h
    dsimp only at h
    split at h
    · rename_i η' ks xs hk
      have e : η' = η := sameH_ok h
      subst e
      obtain ⟨a, ha, rfl⟩ := r
      obtain ⟨b, es, hb, hF, hH, h1, h2, h3⟩ := st.cel j _ hk
      rw [ha] at hb; cases hb
      exact ⟨a, es, rfl, F, ks, st.sub, hH, h1, h2⟩
    · cases h
theorem nkD_ok {kp : P} {k : NestedKey} (h : nkD kp = some k) : isTup kp = true ∧ nkOf kp = some k ∧ k.depth ≤ 8 := by
  unfold nkD at h
  split at h
  · rename_i ht
    obtain ⟨k', h1, h2⟩ := Option.bind_eq_some_iff.mp h
    split at h2
    · rename_i hd
      cases h2
      exact ⟨ht, h1, hd⟩
    · cases h2
  · cases h
theorem isTup_ref {K : PySem.W.Frag} {F : Hp} {kp : P} {v : V} (h : isTup kp = true) (r : Rep K F kp v) : ∃ b, v = .ref b := by
  cases kp with
  | tup xs => obtain ⟨a, _, rfl, _⟩ := r; exact ⟨a, rfl⟩
  | _ => cases h
section
variable {X : Cx} {W : WX} {o e f : Expr} {mo me mf : ME} {td ty tx : TE} {apos cpos : Pos} {j : Nat}
theorem pe_setdN (hr : RoomG j X.A) (ho : PE X o td) (he : PE X e ty) (hf : PE X f tx) (m : M2 X o "setdefault" apos e f cpos) : PE X (.Call (.Attribute o "setdefault" apos) [e, f] [] cpos) (tSetdN X.K (fun k => k.hash X.w) td ty tx) := by
  refine ⟨fun pins s σ H Q I h => ?_⟩
  refine wpAny_Call_method m.base m.few m.line PySem.F.plainAttrs_dict PySem.F.slot_dict_setdefault PySem.F.type_dict_setdefault (thn (ho.run pins s σ H _ I h) fun u s1 ⟨x, H1, I1, rx, a, es0, ex, d, q1⟩ => ?_)
  subst ex
  obtain rfl : u = Value.ref a := rx
  obtain ⟨_, _, _, xs0, _, m0⟩ := dnAt_of I1 d
  have m0' := m0
  obtain ⟨ob, _, _, g1, g2, _⟩ := m0'
  refine ⟨m0.typeIs, fun b q => ?_, ?_⟩
  · cases q
    exact ⟨ob, g1, g2.2.1⟩
  rw [m.trees]
  refine Calls.callWith_builtin rfl (Calls.evalArgs_plain (Calls.spliced_cons (thn (he.run pins s1 σ H1 _ I1 q1) fun iv s2 ⟨y, H2, I2, ry, q2⟩ =>
    Calls.spliced_cons (thn (hf.run pins s2 σ H2 _ I2 q2) fun fv s3 ⟨z, H3, I3, rz, es, b, k, dn, ey, nk, hl, q3, q4⟩ => Calls.spliced_nil ?_))))
  subst ey
  obtain rfl : iv = Value.ref b := ry
  exact setd_run (by have := hr.r.un; omega) I3 dn nk rz hl q3 q4
end
end Mir

namespace Mir
open PySem L2
section
variable {X : Cx} {W : WX} {o e f : Expr} {mo me mf : ME} {td ty tx : TE} {apos cpos pos p mpos : Pos} {j : Nat}
def tValsN (K : PySem.W.Frag) (η : NestedKey → Int) (td : TE) : TE := fun σ H Q => td σ H fun x H1 => ∃ a es, x = V.ref a ∧ DnAt K η H1 a es ∧ ∀ p, H1 p = none → Q (.ref p) (upd H1 p (.lst (es.map (·.2.2))))
theorem paired_vals : ∀ {es : List (NestedKey × Addr × V)} {xs : List (NestedKey × Addr × Value)}, PrN es xs → Vals (es.map (·.2.2)) (xs.map (·.2.2))
  | _, _, .nil => .nil
  | _, _, .cons c t => .cons c.2.2 (paired_vals t)
theorem pe_listValsN (hc : X.calm = true) (hg : Gl X "list") (hm : X.mg "list" = none) (hd : PE X o td) (hbase : attributeBase o "values" X.env (eval o X.env) = eval o X.env := by rfl) (hline : (apos.endLine == mpos.line) = true := by rfl)
    (hse : starEach [Expr.Call (.Attribute o "values" apos) [] [] mpos] X.env = [(false, eval (Expr.Call (.Attribute o "values" apos) [] [] mpos) X.env)] := by rfl) :
    PE X (.Call (.Name "list" p) [.Call (.Attribute o "values" apos) [] [] mpos] [] pos) (tValsN X.K (fun k => k.hash X.w) td) := by
  refine ⟨fun pins s σ H Q I h => ?_⟩
  refine wpAny_Call_Name_kw (ld_blt I hg hm (u := .type "list") (by first | rfl | decide +kernel) ?_ (by first | decide +kernel | decide) (by first | decide +kernel | decide))
  rw [hse]
  refine PySem.callWith_type1 (wpAny_Call_method0_late hbase hline (thn (hd.run pins s σ H _ I h) fun v s1 ⟨x, H1, I1, r1, a, es, ex, dn, q⟩ => ?_))
  subst ex
  obtain rfl : v = Value.ref a := r1
  obtain ⟨z, hsys, _, xs, pr, m⟩ := dnAt_of I1 dn
  have m' := m
  obtain ⟨ob, ds, ep, ho, ex, hdat, hes, _, _⟩ := m'
  refine ⟨"dict", "dict.values", F.plainAttrs_dict, F.slot_dict_values, F.type_dict_values, ⟨ob, ho, ex.1⟩, fun b e => ?_, Calls.callWith_builtin rfl (PySem.evalArgs_none ?_)⟩
  · cases e
    exact ⟨ob, ho, ex.2.1⟩
  have raw : s1.heap.DictRaw a ds ep := ⟨ob, ho, ex, hdat⟩
  refine call_meetsIn F.slot_dict_values ⟨ob, ho, ex.1⟩ F.entry_dict_values (F.args_dict_values_1 _) (meets_dict_values_raw a hsys) ⟨⟨ds, ep, raw⟩, ?_⟩
  have k1 : ∀ b u, s1.heap.get? b = some u → (s1.heap.push { cls := .type "dict_values", data := .fields #[.ref a] }).get? b = some u := fun b u e => Heap.get?_push_of_some _ e
  have I2 : Inv X pins σ H1 { s1 with heap := s1.heap.push { cls := .type "dict_values", data := .fields #[.ref a] } } := I1.kept (t' := s1.toks) k1
  have hsz : ds.size = xs.length := size_of_entries hes
  have hlen := pr.length
  refine PySem.W.kdl_call (KdlSrc.rawValues (es := ds) (ep := ep) (r := s1.heap.objs.size) (d := a)) (I.ok.hd hc) ⟨⟨_, Heap.get?_push_size _ rfl, rfl, rfl⟩, raw.at fun o e => k1 _ _ e⟩ (by rw [hsz, ← hlen]; exact z) fun h' tk acc' c' hk hS hit => ?_
  have ev : acc'.toList = xs.map (·.2.2) := by
    apply List.ext_getElem?
    intro i
    rw [List.getElem?_map]
    by_cases hi : i < xs.length
    · have hi2 : i < acc'.size := by rw [hit.1, hsz]; exact hi
      have e1 : acc'.toList[i]? = some acc'[i] := by simp [hi2]
      obtain ⟨hi3, e2⟩ := hit.2 i acc'[i] (by simp [hi2])
      rw [e1, e2]
      have e3 := entry_at hes i
      rw [List.getElem?_eq_getElem hi] at e3 ⊢
      have e4 : ds[i]? = some ds[i] := by simp [hi3]
      rw [e4] at e3
      have e3 := Option.some.inj e3
      rw [e3]
      rfl
    · rw [List.getElem?_eq_none (by rw [Array.length_toList, hit.1, hsz]; omega), List.getElem?_eq_none (by omega)]
      rfl
  have vals : Vals (es.map (·.2.2)) acc'.toList := by rw [ev]; exact paired_vals pr
  refine ⟨.ref _, _, I2.laid (a := (s1.heap.push { cls := .type "dict_values", data := .fields #[.ref a] }).objs.size) (o := .lst (es.map (·.2.2))) (t' := tk) (fun b u e => hk b u e) (Nat.le_refl _) ?_, rfl, q _ (I2.hok.fresh (Nat.le_refl _))⟩
  exact ⟨by rw [List.length_map]; exact z, acc'.toList, c', vals, by rw [Array.toArray_toList]; exact hS⟩
end
section
variable {K : PySem.W.Frag} {io io1 : Io} {F F1 H H1 : Hp} {S S1 : Sto} {Q : VK} {E : XK}
end
section
variable {P : Program} {w : World} {K : PySem.W.Frag} {mg : Str → Option Value} {base : Heap} {x qual : Str} {params : Arguments} {body : List Stmt} {scope : Scope} {dvs : List V} {kws : List (Str × V)} {f : Addr} {fd : FuncData} {N ps : List Str} {k nl : Nat} {m : MS}
end
end Mir

namespace Mir
open PySem L2
section
variable {X : Cx} {W : WX} {tg iter : Expr} {me : ME} {m : MS} {pos : Pos}
end
section
variable {K : PySem.W.Frag} {Q : VK} {E : XK}
end
section
variable {X : Cx} {W : WX} {elt tg iter : Expr} {ifs : List Expr} {scope : Scope} {own : List (Str × Nat)} {pos : Pos} {me : ME} {js : List Nat} {g : MG} {t : MT} {e : ME}
end
end Mir

namespace Mir
open PySem PySem.Spec L2 PySem.Builtin PySem.Builtin.ObjectAttr
section
variable {prog : Program} {w : World} {A : Around} {E : Value → Shared → Prop} {R : Result → Shared → Prop} {hp : Heap} {g : Array GenState} {d : Drawn} {t : Nat} {os : OsState}
end
section
variable {X : Cx} {pins : List (Addr × Obj)} {σ : St} {H : Hp} {s : Shared} {a C dx : Addr} {f : Str} {y : V} {u : Value} {fs : List (Str × V)} {Q : Unit → Shared → Prop} {E : Value → Shared → Prop} {A : Around}
end
section
variable {X : Cx} {o e : Expr} {es : List Expr} {to te : TE} {ta : TA} {f : Str} {p p' p1 p2 pos : Pos}
end
end Mir

namespace Mir
open PySem PySem.Spec PyProof.Rows
abbrev Cls1 := Value × Option Nat × (Addr → Value → Option Addr → L2.TS)
end Mir
namespace L2
open PySem PySem.Spec PyProof.Rows
section
variable {X : Cx} {body : List Stmt} {h₀ : ExceptHandler} {hds : List ExceptHandler} {l : List Mir.Cls1} {pos : Pos} {tb : WX → TS} {Wout : WX}
end
end L2

namespace PySem.W
open PySem PySem.Spec PySem.Calls PyProof.Rows
section
variable {prog : Program} {w : World} {A : Around} {E : Value → Shared → Prop} {s : Shared} {K : Frag} {x D : Addr} {ox : Obj} {od : Option Obj}
end
end PySem.W
namespace Mir
open PySem L2
end Mir

namespace Mir
open PySem L2
abbrev Sb := List (Str × Str × Bool)
theorem Env.len {K : PySem.W.Frag} {io : Io} {F : Hp} : ∀ {ρ : En} {σ : L2.St}, Mir.Env K io F ρ σ → σ.length = ρ.length
  | [], σ, h => by
    have h : σ = [] := h
    rw [h]
    rfl
  | d :: ρ, σ, h => by
    obtain ⟨o, r, e, _, t⟩ := h
    rw [e, List.length_cons, List.length_cons, Env.len t]
end Mir

namespace Mir
open PySem L2
theorem XRep.nxt {K : PySem.W.Frag} {io io1 : Io} {F F1 H H1 : Hp} {x : XD} {d : Option Addr} (n : Nxt io F H io1 F1 H1) (h : XRep K F H x d) : XRep K F1 H1 x d := by
  cases x with
  | none => exact h
  | some q =>
    obtain ⟨ns, xs⟩ := q
    obtain ⟨a, gs, e, ha, hn, r⟩ := h
    exact ⟨a, gs, e, n.fr _ _ ha, hn, RepL.mono n.fr r⟩
structure SX (K : PySem.W.Frag) (i : Nat) (a : Addr) (d : Option Addr) (x : XD) (F H : Hp) (σ : L2.St) : Prop where
  sl : σ[i]? = some (some (.ref a))
  xr : XRep K F H x d
theorem SX.nxt {K : PySem.W.Frag} {i : Nat} {a : Addr} {d : Option Addr} {x : XD} {io io1 : Io} {F F1 H H1 : Hp} {σ : L2.St} (s : SX K i a d x F H σ) (n : Nxt io F H io1 F1 H1) : SX K i a d x F1 H1 σ := ⟨s.sl, s.xr.nxt n⟩
section
variable (X : Cx) (i : Nat)
end
section
variable {X : Cx} {i : Nat} {e a b cc : Expr} {es : List Expr} {m ma mb : Str → XD → ME} {mt mu : Str → XD → MT} {mas : Str → XD → MA} {pos p : Pos}
end
end Mir

namespace Mir
open PySem PySem.Spec PyProof.Rows LamX
section
variable {X : L2.Cx} {pins : List (Addr × Obj)} {σ : L2.St} {H : L2.Hp} {s : Shared}
inductive TabStep (H : L2.Hp) (P : Addr) (ps : Array Value) (q : Str) (c' : Addr) : L2.Hp → Prop
  | hit (h : H c' = some (CodeO c' q)) (pos : Pos) (e : codeAmong pos ps.toList = some (.ref c')) : TabStep H P ps q c' H
  | new (more : Array Value) (h : H c' = none) (t : TriplesOk (ps ++ more).toList) (a : ∀ (p : Pos) (cv : Value), codeAmong p (ps ++ more).toList = some cv → codeAmong p ps.toList = some cv ∨ cv = .ref c') : TabStep H P ps q c' (L2.upd (L2.upd H P (.tbl (ps ++ more))) c' (CodeO c' q))
end
open L2 in
theorem Sta.tab {K : PySem.W.Frag} {io : Io} {F H H1 : L2.Hp} {S : Sto} {k : Nat} {x : Str} {c' : Addr} {q : Str} {ps : Array Value} (st : Sta K io F S H) (hk : S[k]? = some (.tbl x q)) (hP0 : H (lamT K x) = some (.tbl ps)) (h0 : TabStep H (lamT K x) ps q c' H1) :
    ∃ F1, Nxt io F H io F1 H1 ∧ Sta K io F1 S H1 ∧ F1 c' = some (CodeO c' q) := by
  obtain ⟨P, eP⟩ : ∃ P, P = lamT K x := ⟨_, rfl⟩
  have hP : H P = some (.tbl ps) := by rw [eP]; exact hP0
  have h : TabStep H P ps q c' H1 := by rw [eP]; exact h0
  obtain ⟨h1, h2, ps', h3, h4, h5⟩ := st.cel k _ hk
  rw [← eP] at h1 h2 h3
  rw [hP] at h3
  cases h3
  cases h with
  | hit hc pos e =>
    obtain ⟨c, e1, e2⟩ := h5 pos _ e
    cases e1
    exact ⟨F, Nxt.refl, st, e2⟩
  | new more hc ht ha =>
    obtain ⟨s1, n1⟩ := st.froze (o := CodeO c' q) hc
    have hne : P ≠ c' := fun z => by rw [z, hc] at hP; cases hP
    have hF1 : upd F c' (CodeO c' q) P = none := by rw [upd_ne hne]; exact h2
    have key : CellAt K io (upd F c' (CodeO c' q)) (upd (upd H c' (CodeO c' q)) P (.tbl (ps ++ more))) k (.tbl x q) := by
      show io[k]? = some (some (lamT K x)) ∧ _ ∧ _
      rw [← eP]
      refine ⟨h1, hF1, ps ++ more, upd_same, ht, fun p cv e => ?_⟩
      rcases ha p cv e with z | z
      · obtain ⟨c, e1, e2⟩ := h5 p cv z
        exact ⟨c, e1, n1.fr _ _ e2⟩
      · exact ⟨c', z, upd_same⟩
    have hH : upd (upd H c' (CodeO c' q)) P (.tbl (ps ++ more)) = upd (upd H P (.tbl (ps ++ more))) c' (CodeO c' q) := by
      funext b
      by_cases q1 : b = P
      · subst q1
        rw [upd_same, upd_ne hne, upd_same]
      · rw [upd_ne q1]
        by_cases q2 : b = c'
        · subst q2
          rw [upd_same, upd_same]
        · rw [upd_ne q2, upd_ne q2, upd_ne q1]
    obtain ⟨s2, n2⟩ := s1.write h1 hF1 key
    rw [hH] at s2 n2
    rw [show S.set k (.tbl x q) = S from List.ext_getElem? fun j => by
      by_cases hj : j = k
      · subst hj
        rw [List.getElem?_set_self (List.getElem?_eq_some_iff.mp hk).1, hk]
      · rw [List.getElem?_set_ne (Ne.symm hj)]] at s2
    exact ⟨_, n1.trans n2, s2, upd_same⟩
end Mir

namespace Mir
open PySem PySem.Spec PyProof.Rows LamX
section
variable {X : L2.Cx} {pins : List (Addr × Obj)} {σ : L2.St} {H : L2.Hp} {s : Shared}
end
end Mir
namespace Mir
open PySem L2
end Mir

namespace Mir
open PySem L2
end Mir

namespace Mir
open PySem L2
end Mir

namespace Mir
open PySem L2
end Mir

namespace Mir
open PySem L2
end Mir

namespace Mir
open PySem PySem.Spec L2
section
variable {P : Program} {w : World} {K : PySem.W.Frag} {mg : Str → Option Value} {base : Heap} {x qual : Str} {params : Arguments} {body : List Stmt} {scope : Scope} {dvs : List V} {kws : List (Str × V)} {f : Addr} {fd : FuncData} {N ps : List Str} {k nl : Nat} {m : MS}
end
structure Sub (X : Cx) (A : Around) : Prop where
  fr : A.frames = X.A.frames
  dp : A.depth + 3 * 1 + 5 < recursionLimit
  un : A.units + 16 * 1 + 200 < cLine
section
variable {X : Cx} {A : Around} {c : Str} {m : MF} {pins : List (Addr × Obj)} {σ : St} {H : Hp} {s : Shared} {b dx : Addr} {fs : List (Str × V)} {Q : Str → Shared → Prop} {Q' : Str → Hp → Prop} {E : Value → Shared → Prop} {n : Nat}
end
section
variable {X : Cx} {A : Around} {pins : List (Addr × Obj)} {σ : St} {H : Hp} {s : Shared} {a : Addr} {v : V} {Q : Value → Shared → Prop} {Q' : Str → Hp → Prop} {E : Value → Shared → Prop}
end
section
variable {X : Cx} {tb : List (Str × MF)}
end
structure RoomR (A : Around) : Prop where
  dp : A.depth + 3 * 1 + 8 < recursionLimit
  un : A.units + 16 * 1 + 211 < cLine
  gd : A.guards = some []
theorem RoomG.rr {k : Nat} {A : Around} (h : RoomG k A) (hk : 2 ≤ k) : RoomR A := ⟨by have := h.r.dp; omega, by have := h.r.un; omega, h.gd⟩
section
variable {X : Cx} {tb : List (Str × MF)}
end
section
variable {X : Cx} {W : WX} {tb : List (Str × MF)} {a : Expr} {ma : ME} {pos p : Pos} {k i : Nat} {mx : Str → XD → ME}
end
end Mir

namespace Mir
open PySem L2
section
variable {K : PySem.W.Frag}
end
section
variable {X : Cx} {W : WX} {a o : Expr} {ma mo : ME} {pos p apos : Pos}
end
end Mir

namespace Mir
open PySem L2
section
variable {X : Cx} {W : WX} {a b : Expr} {ma mb : ME} {pos : Pos}
end
end Mir

namespace Mir
open PySem L2
section
variable {X : Cx} {W : WX} {a b : Expr} {ma mb : ME} {x x2 : Str} {pos : Pos} {params params2 : Arguments} {ps ps2 : List Str} {k k2 j : Nat} {m m2 : MF}
end
end Mir

namespace Mir
open PySem PySem.Spec PyProof.Rows LamX
open L2 (Cx Hp Inv V RelV)
section
variable {X : Cx} {pins : List (Addr × Obj)} {σ : L2.St} {H HZ : Hp} {s s1 : Shared}
end
end Mir

namespace Mir
open PySem L2
end Mir

namespace Mir
open PySem L2
def putLot (k : NestedKey) (kp x : P) : List P → List (List P) → List P × List (List P)
  | kk :: ks, l :: ls => if nkOf kk = some k then (kk :: ks, (l ++ [x]) :: ls) else (kk :: (putLot k kp x ks ls).1, l :: (putLot k kp x ks ls).2)
  | _, _ => ([kp], [[x]])
def LotsR (K : PySem.W.Frag) (F H : Hp) (Ok : Addr → Prop) (m : Nat) : List P → List (List P) → List (NestedKey × Addr × V) → Prop
  | [], [], [] => True
  | kk :: ks, l :: ls, e :: es => nkOf kk = some e.1 ∧ Rep K F kk (.ref e.2.1) ∧ (∃ b vs, e.2.2 = .ref b ∧ H b = some (.lst vs) ∧ RepL K F l vs ∧ Ok b ∧ l.length ≤ m) ∧ LotsR K F H Ok m ks ls es
  | _, _, _ => False
section
variable {K : PySem.W.Frag} {F F' H H' : Hp} {Ok Ok' : Addr → Prop} {m m' : Nat}
theorem LotsR.mono (hF : Same F F') (hH : ∀ b o, Ok b → H b = some o → H' b = some o) (hO : ∀ b o, Ok b → H b = some o → Ok' b) (hm : m ≤ m') : ∀ {ks : List P} {ls : List (List P)} {es : List (NestedKey × Addr × V)}, LotsR K F H Ok m ks ls es → LotsR K F' H' Ok' m' ks ls es
  | [], [], [], _ => trivial
  | kk :: ks, l :: ls, e :: es, ⟨h1, h2, ⟨b, vs, e1, h3, h4, h5, h6⟩, h7⟩ => ⟨h1, Rep.mono hF h2, ⟨b, vs, e1, hH _ _ h5 h3, RepL.mono hF h4, hO _ _ h5 h3, Nat.le_trans h6 hm⟩, LotsR.mono hF hH hO hm h7⟩
  | [], [], _ :: _, h => h.elim
  | [], _ :: _, _, h => h.elim
  | _ :: _, [], _, h => h.elim
  | _ :: _, _ :: _, [], h => h.elim
theorem LotsR.keys : ∀ {ks : List P} {ls : List (List P)} {es : List (NestedKey × Addr × V)}, LotsR K F H Ok m ks ls es → nkL ks = some (es.map (·.1)) ∧ RepL K F ks (es.map fun e => .ref e.2.1) ∧ ks.length = es.length
  | [], [], [], _ => ⟨rfl, .nil, rfl⟩
  | kk :: ks, l :: ls, e :: es, ⟨h1, h2, _, h7⟩ => by
    obtain ⟨a, b, c⟩ := LotsR.keys h7
    refine ⟨?_, .cons h2 b, by rw [List.length_cons, List.length_cons, c]⟩
    show (match nkOf kk, nkL ks with
      | some k, some ks => some (k :: ks)
      | _, _ => none) = _
    rw [h1, a]
    rfl
  | [], [], _ :: _, h => h.elim
  | [], _ :: _, _, h => h.elim
  | _ :: _, [], _, h => h.elim
  | _ :: _, _ :: _, [], h => h.elim
theorem LotsR.vals : ∀ {ks : List P} {ls : List (List P)} {es : List (NestedKey × Addr × V)}, LotsR K F H Ok m ks ls es → ∀ e ∈ es, ∃ b, e.2.2 = .ref b ∧ Ok b ∧ H b ≠ none
  | [], [], [], _, e, he => by cases he
  | kk :: ks, l :: ls, e :: es, ⟨h1, h2, ⟨b, vs, e1, h3, h4, h5, _⟩, h7⟩, x, hx => by
    rcases List.mem_cons.mp hx with z | z
    · subst z
      exact ⟨b, e1, h5, by rw [h3]; exact fun z => nomatch z⟩
    · exact LotsR.vals h7 x z
  | [], [], _ :: _, h, _, _ => h.elim
  | [], _ :: _, _, h, _, _ => h.elim
  | _ :: _, [], _, h, _, _ => h.elim
  | _ :: _, _ :: _, [], h, _, _ => h.elim
theorem LotsR.beside {q : Addr} {o : HO} (hq : ∀ e : NestedKey × Addr × V, e.2.2 ≠ .ref q → True) : ∀ {ks : List P} {ls : List (List P)} {es : List (NestedKey × Addr × V)}, (∀ e ∈ es, e.2.2 ≠ .ref q) → LotsR K F H Ok m ks ls es → LotsR K F (upd H q o) Ok m ks ls es
  | [], [], [], _, _ => trivial
  | kk :: ks, l :: ls, e :: es, hn, ⟨h1, h2, ⟨b, vs, e1, h3, h4, h5, h6⟩, h7⟩ => ⟨h1, h2, ⟨b, vs, e1, by
      rw [upd_ne (fun z => hn e List.mem_cons_self (by rw [e1, z]))]
      exact h3, h4, h5, h6⟩, LotsR.beside hq (fun x hx => hn x (List.mem_cons_of_mem _ hx)) h7⟩
  | [], [], _ :: _, _, h => h.elim
  | [], _ :: _, _, _, h => h.elim
  | _ :: _, [], _, _, h => h.elim
  | _ :: _, _ :: _, [], _, h => h.elim
theorem LotsR.put {k : NestedKey} {kp x : P} {v : V} (hx : Rep K F x v) : ∀ {ks : List P} {ls : List (List P)} {es : List (NestedKey × Addr × V)}, LotsR K F H Ok m ks ls es → (es.map (·.2.2)).Nodup →
    (es.find? (fun e => decide (e.1 = k)) = none ∧ putLot k kp x ks ls = (ks ++ [kp], ls ++ [[x]])) ∨
    ∃ e b vs, es.find? (fun e => decide (e.1 = k)) = some e ∧ e.2.2 = .ref b ∧ H b = some (.lst vs) ∧ vs.length ≤ m ∧ Ok b ∧ LotsR K F (upd H b (.lst (vs ++ [v]))) Ok (m + 1) (putLot k kp x ks ls).1 (putLot k kp x ks ls).2 es
  | [], [], [], _, _ => .inl ⟨rfl, rfl⟩
  | kk :: ks, l :: ls, e :: es, ⟨h1, h2, ⟨b, vs, e1, h3, h4, h5, h6⟩, h7⟩, nd => by
    have nd' := List.nodup_cons.mp nd
    by_cases hk : e.1 = k
    · have hp : putLot k kp x (kk :: ks) (l :: ls) = (kk :: ks, (l ++ [x]) :: ls) := by
        show (if nkOf kk = some k then _ else _) = _
        rw [if_pos (by rw [h1, hk])]
      refine .inr ⟨e, b, vs, by rw [List.find?_cons, decide_eq_true hk], e1, h3, by rw [h4.length]; exact h6, h5, ?_⟩
      rw [hp]
      refine ⟨h1, h2, ⟨b, vs ++ [v], e1, upd_same, h4.append (.cons hx .nil), h5, by rw [List.length_append]; exact Nat.succ_le_succ h6⟩, ?_⟩
      refine LotsR.beside (fun _ _ => trivial) (fun z hz q => nd'.1 (List.mem_map.mpr ⟨z, hz, q.trans e1.symm⟩)) (LotsR.mono (Same.refl _) (fun _ _ _ z => z) (fun _ _ z _ => z) (Nat.le_succ _) h7)
    · have hp : putLot k kp x (kk :: ks) (l :: ls) = (kk :: (putLot k kp x ks ls).1, l :: (putLot k kp x ks ls).2) := by
        show (if nkOf kk = some k then _ else _) = _
        rw [if_neg (by rw [h1]; exact fun z => hk (Option.some.inj z))]
      rcases LotsR.put (k := k) (kp := kp) hx h7 nd'.2 with ⟨g1, g2⟩ | ⟨e', b', vs', g1, g2, g3, g4, g5, g6⟩
      · refine .inl ⟨by rw [List.find?_cons, decide_eq_false hk]; exact g1, ?_⟩
        rw [hp, g2]
        rfl
      · refine .inr ⟨e', b', vs', by rw [List.find?_cons, decide_eq_false hk]; exact g1, g2, g3, g4, g5, ?_⟩
        rw [hp]
        have hne : b ≠ b' := fun z => nd'.1 (List.mem_map.mpr ⟨e', List.mem_of_find?_eq_some g1, by show e'.2.2 = e.2.2; rw [g2, e1, z]⟩)
        exact ⟨h1, h2, ⟨b, vs, e1, by rw [upd_ne hne]; exact h3, h4, h5, Nat.le_succ_of_le h6⟩, g6⟩
  | [], [], _ :: _, h, _ => h.elim
  | [], _ :: _, _, h, _ => h.elim
  | _ :: _, [], _, h, _ => h.elim
  | _ :: _, _ :: _, [], h, _ => h.elim
end
section
variable {K : PySem.W.Frag} {io io1 : Io} {F F1 H H1 : Hp} {S : Sto}
theorem Nxt.put {b : Addr} {o : HO} (n : Nxt io F H io1 F1 H1) (hb : H b = none) : Nxt io F H io1 F1 (upd H1 b o) := by
  refine ⟨n.han, n.fr, fun a u e k => ?_, n.new, fun a e => ?_, n.nf⟩
  · rw [upd_ne (ne_of_none e hb)]
    exact n.out a u e k
  · by_cases q : a = b
    · subst q; exact hb
    · rw [upd_ne q] at e
      exact n.stay a e
end
end Mir

namespace Mir
open PySem L2
theorem Nxt.fresh {K : PySem.W.Frag} {io io1 : Io} {F F1 H H1 : Hp} {q : Addr} (n : Nxt io F H io1 F1 H1) (h : H1 q = none) : H q = none := n.stay q h
section
variable {X : Cx} {W : WX} {x y : Str} {i j k0 : Nat} {iter ke : Expr} {it : MI} {key : ME} {rest : List Stmt} {mrest : MS} {p1 p2 p3 p4 p5 p6 p7 p8 p9 p10 p11 p12 p13 : Pos}
end
end Mir

namespace Mir
open PySem L2
end Mir

namespace Mir
open PySem PySem.Spec PyProof.Rows LamX
open L2 (Cx Hp Inv V RelV)
section
variable {X : Cx} {pins : List (Addr × Obj)} {σ : L2.St} {H HZ : Hp} {s s1 : Shared}
end
end Mir

namespace Mir
open PySem L2
theorem Sta.swap {K : PySem.W.Frag} {io : Io} {F H : Hp} {S : Sto} {k : Nat} {c c' : Cell} (st : Sta K io F S H) (hk : S[k]? = some c) (h : CellAt K io F H k c → CellAt K io F H k c') : Sta K io F (S.set k c') H := by
  refine ⟨by rw [List.length_set]; exact st.len, st.inj, st.sub, st.trk, fun j d e => ?_⟩
  by_cases hj : j = k
  · subst hj
    rw [List.getElem?_set_self (List.getElem?_eq_some_iff.mp hk).1] at e
    cases e
    exact h (st.cel _ _ hk)
  · rw [List.getElem?_set_ne (Ne.symm hj)] at e
    exact st.cel j d e
structure LamP where
  f : Addr
  c : Addr
  jx : Nat
  by_ : Str
  q : Str
  w : Vl → Sto → Res Vl
section
variable {X : Cx} {W : WX} {x q mk p : Str} {c : Addr} {k kG jx : Nat} {G : LamP → MF} {gparams params : Arguments} {ps : List Str} {e1 e2 body : Expr} {scope : Scope} {p1 lpos pos : Pos} {m1 m2 mb : ME}
end
end Mir

namespace Mir
open PySem L2
section
variable {X : Cx} {W : WX} {e : Expr} {es : List Expr} {mas : MA} {x : Str} {p pos : Pos} {params : Arguments} {ps : List Str} {k j : Nat} {m : MF}
end
end Mir

namespace Mir
open PySem L2
def dfB (K : PySem.W.Frag) (dV : Value) (ds : List P) : Bool := match dV with
  | .ref T => (match K.lookup T with
    | some ⟨_, _, .seq its _, _⟩ => repKs K ds its.toList
    | _ => false)
  | _ => false
def ParD (K : PySem.W.Frag) (fd : FuncData) (params : Arguments) (ds : List P) : Prop := ∃ (x qual : Str) (body : List Stmt) (scope : Scope) (T : Addr) (o : Obj) (its : List Value) (n : Nat) (kV doc pm : Value) (an : Option Addr) (cdv ct : Value) (vs : List V),
  fd = PySem.W.fnOf x qual params body scope (.ref T) kV doc pm an cdv ct ∧ K.lookup T = some o ∧ o.data = .seq its.toArray n ∧ Vals vs its ∧ ∀ F, RepL K F ds vs
structure FunDD (K : PySem.W.Frag) (ds : List P) (x qual : Str) (params : Arguments) (body : List Stmt) (scope : Scope) (f : Addr) (fd : FuncData) : Prop where
  dv : ∃ dvs, FunD K x qual params body scope dvs [] f fd
  par : ParD K fd params ds
structure DefMD where
  d : DefM
  ds : List P
def DefMD.ok (K : PySem.W.Frag) (q : DefMD) : Bool := PySem.W.keepIn K (.ref (q.d.ad K)) && ((match K.lookup (q.d.ad K) with
  | some ⟨_, _, .func fd, _⟩ => PySem.W.codeIn K fd.code q.d.qual && dfB K fd.defaults q.ds
  | _ => false) && !q.ds.isEmpty)
theorem DefMD.funD {K : PySem.W.Frag} {q : DefMD} (e : fnM K (q.d.ad K) = q.d.val) (c : q.ok K = true) : ∃ fd, FunDD K q.ds q.d.name q.d.qual q.d.params q.d.body q.d.scope (q.d.ad K) fd := by
  obtain ⟨d, ds⟩ := q
  unfold DefMD.ok at c
  rw [Bool.and_eq_true] at c
  obtain ⟨hk, c⟩ := c
  rw [Bool.and_eq_true] at c
  obtain ⟨c, hne⟩ := c
  unfold fnM at e
  dsimp only at c e hk hne ⊢
  cases q : K.lookup (d.ad K) with
  | none => rw [q] at c; cases c
  | some o =>
    obtain ⟨oc, od, dt, osl⟩ := o
    rw [q] at c e
    cases dt with
    | func fd =>
      obtain ⟨n1, n2, n3, n4, n5, n6, n7, n8, n9, n10, n11, n12, n13, n14, n15⟩ := fd
      have e2 : (some (n1, n2, n3, n4, n5, n6, n7, n15) : He.FnW) = some (d.name, d.qual, d.params, .stmts d.body, d.scope, mainGlobals, [], builtinsNs) := e
      simp only [Option.some.injEq, Prod.mk.injEq] at e2
      obtain ⟨h1, h2, h3, h4, h5, h6, h7, h9⟩ := e2
      subst h1 h2 h3 h4 h5 h6 h7 h9
      dsimp only at c
      rw [Bool.and_eq_true] at c
      obtain ⟨c1, c2⟩ := c
      unfold dfB at c2
      split at c2
      · rename_i T
        split at c2
        · rename_i cT dT its nT sT hT
          obtain ⟨vs, v1, v2⟩ := repKs_ok c2
          have hv : vs ≠ [] := by
            have l1 := (v2 (fun _ => none)).length
            intro z
            rw [z] at l1
            cases ds with
            | nil => cases hne
            | cons _ _ => simp at l1
          refine ⟨_, ⟨vs, ⟨oc, od, _, _, _, _, _, _, _, osl, rfl, q, c1, .inr ⟨hv, T, _, its.toList, nT, rfl, hT, rfl, v1⟩, .inl rfl⟩, hk⟩, _, _, _, _, T, _, its.toList, nT, _, _, _, _, _, _, vs, rfl, hT, rfl, v1, v2⟩
        · cases c2
      · cases c2
    | _ => cases c
section
variable {X : Cx} {W : WX} {e : Expr} {es : List Expr} {mas mks : MA} {x : Str} {p pos : Pos} {params : Arguments} {ps ks : List Str} {ds : List P} {k j n : Nat} {m : MF} {kws : List Keyword} {pm : List Nat}
end
end Mir

namespace Mir
open PySem L2
section
variable {X : Cx} {W : WX} {pos : Pos} {keys : List (Option Expr)} {values : List Expr}
end
end Mir

namespace Mir
open PySem L2
section
variable {X : Cx} {W : WX} {a o : Expr} {ma mo : ME} {apos pos : Pos}
end
end Mir

namespace Mir
open PySem PySem.Spec PyProof.Rows L2
section
variable {K : PySem.W.Frag} {io io1 : Io} {F F1 H H1 : Hp} {S S1 : Sto} {Q : VK} {E : XK}
variable {X : Cx}
end
section
variable {X : Cx} {W : WX} {a o : Expr} {ma mo : ME} {apos pos p : Pos}
end
section
variable {K : PySem.W.Frag} {io io1 : Io} {F F1 H H1 : Hp} {S S1 : Sto} {Q : VK} {E : XK}
end
section
variable {P : Program} {w : World} {K : PySem.W.Frag} {mg : Str → Option Value} {base : Heap} {x qual : Str} {params : Arguments} {body : List Stmt} {scope : Scope} {dvs : List V} {kws : List (Str × V)} {f : Addr} {fd : FuncData} {N ps : List Str} {k nl : Nat} {m : MS}
end
end Mir

namespace HT
open PySem PySem.Spec PyProof.Rows
end HT
namespace Mir
open PySem PySem.Spec PyProof.Rows L2
section
variable {X : Cx}
end
section
variable {X : Cx} {W : WX} {e : Expr} {me : ME}
end
end Mir

namespace IdE
open PySem PySem.Spec PyProof.Rows PySem.SeqAt
section
variable {M : Model} {prog : Program} {w : World} {A : Around} {E : Value → Shared → Prop} {s : Shared} {K : PySem.W.Frag} {x y C D f : Addr} {ox oy : Obj} {od od' : Option Obj}
end
end IdE

namespace Mir
open PySem PySem.Spec PyProof.Rows L2
section
variable {X : Cx} {W : WX} {a b : Expr} {ma mb : ME} {x y : Str} {pos : Pos} {params : Arguments} {ps : List Str} {k j : Nat} {m : MF}
end
end Mir

namespace Rw
open PySem PySem.Spec PyProof.Rows L2 Mir
section
variable {X : Cx} {pins : List (Addr × Obj)} {σ : L2.St} {H : Hp} {s : Shared}
def RawL (X : Cx) (s : Shared) (x : Str) (u : Value) : Prop := s.heap.nsMap X.env.locals x = some u
theorem store_raw {M : Model} {A : Around} {E : Value → Shared → Prop} {i : Nat} {x : Str} {v : V} {u : Value} {Q : Unit → Shared → Prop} (I : Inv X pins σ H s) (hN : X.N.Nodup) (hi : X.N[i]? = some x) (hk : X.env.kindOf x = some .local) (r : RelV v u)
    (h : ∀ s', 1 ≤ s'.toks → Inv X pins (σ.set i (some v)) H s' → RawL X s' x u → (∀ y w, y ≠ x → RawL X s y w → RawL X s' y w) → Q () s') : wpAny M A (storeName X.env x u) Q E s := by
  obtain ⟨m, hn, hl⟩ := id I.loc
  have hcls : (X.env.scope.kind == .class || (X.env.scope.kind == .module && X.env.locals != X.env.globals)) = false := by rw [I.ok.kind]; rfl
  have hiσ : i < σ.length := by rw [I.len]; exact (List.getElem?_eq_some_iff.mp hi).1
  have cne := I.cne
  have tracked : ∀ {a : Addr} {h' : Heap}, (∃ o, s.heap.get? a = some o ∧ H a = none) → Heap.SameBut a s.heap h' → HOk X.prog X.w H h' := fun {a h'} ha hs b ob e => by
    obtain ⟨_, _, hfree⟩ := ha
    refine (I.hok b ob e).stay (fun c w' hc q => (hs.2 c ?_).trans q) (fun _ q => q) fun _ _ q => q
    rintro rfl
    rcases hc with rfl | hc
    · rw [hfree] at e; cases e
    · rw [hfree] at hc; cases hc
  refine wpAny_storeName_local hk hn (fun h' hn' hs => ?_) hcls
  obtain ⟨oL, _, _, hoL, _⟩ := id hn
  have em := hn.eq_nsMap
  have em' := hn'.eq_nsMap
  refine h _ (by show 1 ≤ s.toks + 1; omega) ⟨I.ok, I.os, I.bare, ⟨fun b o e n hb hx => ?_, fun b o e n hb hx => ?_, I.base.free, fun b o e hx => ?_, I.base.tups, I.base.frzs, I.base.tbls⟩, ⟨_, hn', fun j y v' e1 e2 e3 => ?_⟩, fun y c e => ?_, I.free, I.freeC, fun p hp => ?_, tracked ⟨oL, hoL, I.free⟩ hs, by simpa using I.len⟩ ?_ ?_
  · exact (hs.2 b (Nat.ne_of_lt (Nat.lt_of_lt_of_le (Heap.lt_size e) I.ok.above))).trans (I.base.keep b o e n hb hx)
  · obtain ⟨sl, e1⟩ := I.base.slot b o e n hb hx
    exact ⟨sl, (hs.2 b (Nat.ne_of_lt (Nat.lt_of_lt_of_le (Heap.lt_size e) I.ok.above))).trans e1⟩
  · obtain ⟨o', e1⟩ := I.base.there b o e hx
    exact ⟨o', (hs.2 b (Nat.ne_of_lt (Nat.lt_of_lt_of_le (Heap.lt_size e) I.ok.above))).trans e1⟩
  · by_cases hj : j = i
    · subst hj
      rw [hi] at e1; cases e1
      rw [List.getElem?_set_self hiσ] at e2
      cases e2
      exact ⟨u, r, .inl ⟨hk, by simp⟩⟩
    · rw [List.getElem?_set_ne (Ne.symm hj)] at e2
      obtain ⟨u', r', q⟩ := hl j y v' e1 e2 e3
      refine ⟨u', r', ?_⟩
      rcases q with ⟨k, e⟩ | ⟨k, c, e, z⟩
      · refine .inl ⟨k, ?_⟩
        have : y ≠ x := fun e => hj (nodup_ix hN e1 (e ▸ hi))
        simp [this, e]
      · exact .inr ⟨k, c, e, z.sameBut hs (cne y c e)⟩
  · obtain ⟨w', z⟩ := I.cell y c e
    exact ⟨w', z.sameBut hs (cne y c e)⟩
  · obtain ⟨e, n, ne, nf, d⟩ := I.pin p hp
    exact ⟨(hs.2 p.1 ne).trans e, n, ne, nf, d⟩
  · show h'.nsMap X.env.locals x = some u
    rw [← em']
    simp
  · intro y w hy hw
    show h'.nsMap X.env.locals y = some w
    have hw : s.heap.nsMap X.env.locals y = some w := hw
    rw [← em'] 
    rw [← em] at hw
    simp [hy, hw]
theorem load_raw {x : Str} {u : Value} {pos : Pos} {Q E : Value → Shared → Prop} (I : Inv X pins σ H s) (hk : X.env.kindOf x = some .local) (hr : RawL X s x u) (fin : Q u s) (hd : (x == ("__debug__" : Str)) = false := by decide) : wpAny (model X.prog X.w) X.A (eval (.Name x pos) X.env) Q E s := by
  obtain ⟨m, hn, _⟩ := I.loc
  have hm : m x = some u := by
    rw [hn.eq_nsMap]
    exact hr
  exact wpAny_Name (wpAny_loadName_local I.ok.kind hk hn hm fin) hd
theorem rawT_isTup {a : Addr} {y z : Str} {t u : Tok} (h : RawT X.K H a y z t u) (I : Inv X pins σ H s) : IsTup s.heap a #[.str y t, .str z u] := by
  obtain ⟨⟨o, n, h1, h2, h3⟩, _⟩ := h
  rcases h1 with h1 | h1
  · have h4 := I.hok a _ h1
    obtain ⟨h5, _⟩ := h4
    exact ⟨o, h5, h2, n, h3⟩
  · exact ⟨o, I.kIn a o h1, h2, n, h3⟩
end
def PGB (X : Cx) (tg : Expr) (body : List Stmt) (t : V → TS) : Prop :=
  ∀ (pins : List (Addr × Obj)) (s : Shared) (σ : L2.St) (H : Hp) (v : V) (u : Value) (D : Ends), Inv X pins σ H s → RelV v u → t v D σ H →
    wpAny (model X.prog X.w) X.A (assign tg X.env u) (fun _ s6 => wpAny (model X.prog X.w) X.A (execs body X.env) (SP X pins D) X.xe s6) X.xe s
def tRp (K : PySem.W.Frag) (ia ib ik : Nat) : V → TS := fun v D σ H => ∃ p y z t u x, v = .ref p ∧ RawT K H p y z t u ∧ ia ≠ ik ∧ ib ≠ ik ∧ σ[ik]? = some (some (.str x)) ∧ x.length + (x.length + 1) * z.length ≤ 16777216 ∧ D.nx (((σ.set ia (some (.str y))).set ib (some (.str z))).set ik (some (.str (Txt.replace x y z)))) H
section
variable {X : Cx}
theorem pgb_repl {ia ib ik n0 : Nat} {a b k : Str} {p1 p2 p3 p4 p5 p6 tpos apos cpos pos : Pos} (hc : X.calm = true) (hN : X.N.Nodup) (ha : X.N[ia]? = some a) (hb : X.N[ib]? = some b) (hk : X.N[ik]? = some k)
    (la : X.env.kindOf a = some .local) (lb : X.env.kindOf b = some .local) (lk : X.env.kindOf k = some .local) (hab : a ≠ b)
    (da : (a == ("__debug__" : Str)) = false := by decide) (db : (b == ("__debug__" : Str)) = false := by decide) (dk : (k == ("__debug__" : Str)) = false := by decide) (dk2 : (k == ("__classdict__" : Str)) = false := by decide)
    (hst : starEach [.Name a p4, .Name b p5] X.env = [(false, eval (.Name a p4) X.env), (false, eval (.Name b p5) X.env)] := by rfl)
    (hbase : attributeBase (.Name k p3) "replace" X.env (eval (.Name k p3) X.env) = eval (.Name k p3) X.env := by rfl) (hline : (apos.endLine == cpos.line) = true := by rfl)
    (hn : (assignEach [.Name a p1, .Name b p2] X.env).length = 2 := by rfl) (hf : (assignEach [.Name a p1, .Name b p2] X.env).findIdx? (·.1) = none := by rfl)
    (hm : (assignEach [.Name a p1, .Name b p2] X.env).map (·.2) = [assign (.Name a p1) X.env, assign (.Name b p2) X.env] := by rfl)
    (hs : swapsWith (.Call (.Attribute (.Name k p3) "replace" apos) [.Name a p4, .Name b p5] [] cpos) (some (.Name k p6)) pos.line X.env = pure false := by rfl) :
    PGB X (.Tuple [.Name a p1, .Name b p2] n0 tpos) [.Assign [.Name k p6] (.Call (.Attribute (.Name k p3) "replace" apos) [.Name a p4, .Name b p5] [] cpos) pos] (tRp X.K ia ib ik) := by
  intro pins s σ H v w D I rv h
  obtain ⟨p, y, z, t, u, x, rfl, hr, nak, nbk, hx, h16, q⟩ := h
  cases (show w = Value.ref p from rv)
  have ht := rawT_isTup hr I
  obtain ⟨_, t0, u0, tu, yz⟩ := hr
  refine assign_Tuple_tuple (I.ok.hd hc) ht (by rw [hn]; rfl) hf fun h' hx' => ?_
  have I1 : Inv X pins σ H { s with heap := h' } := I.kept (t' := s.toks) fun b o e => hx' b o (Nat.ne_of_lt (Heap.lt_size e)) e
  rw [hm]
  show wpAny _ _ (assignInOrder [assign (.Name a p1) X.env, assign (.Name b p2) X.env] [.str y t, .str z u]) _ _ _
  refine assignInOrder_cons (wpAny_assign_Name (store_raw I1 hN ha la (v := .str y) ⟨t, rfl⟩ fun s2 _ I2 r2 _ => ?_))
  refine assignInOrder_cons (wpAny_assign_Name (store_raw I2 hN hb lb (v := .str z) ⟨u, rfl⟩ fun s3 _ I3 r3 k3 => ?_))
  refine assignInOrder_nil ?_
  have ra := k3 a (.str y t) hab r2
  refine wpAny_execs_cons (wpAny_Assign_Name ?_ hs)
  have hσ : ((σ.set ia (some (V.str y))).set ib (some (V.str z)))[ik]? = some (some (.str x)) := by
    rw [List.getElem?_set_ne nbk, List.getElem?_set_ne nak, hx]
  refine PySem.Call_method2 hbase hst hline (raw_name hk (.inl lk) I3 hσ (fun v rv => ?_) dk dk2)
  obtain ⟨tx, rfl⟩ := rv
  refine ⟨"str", _, PySem.F.plainAttrs_str, PySem.F.slot_str_replace, PySem.F.type_str_replace, typeIs_str _ _ _, (fun _ e => nomatch e), Calls.callWith_builtin rfl (Calls.evalArgs_plain (Calls.spliced_cons ?_))⟩
  refine load_raw I3 la ra ?_ da
  refine Calls.spliced_cons (load_raw I3 lb r3 ?_ db)
  refine Calls.spliced_nil ?_
  refine PySem.SC.replace t0 u0 tu yz h16 fun t' k' => ?_
  refine store_raw (I3.tok k') hN hk lk (v := .str (Txt.replace x y z)) ⟨t', rfl⟩ fun s4 _ I4 _ _ => ?_
  exact wpAny_execs_nil ⟨_, H, I4, q⟩
end
end Rw

namespace Rw
open PySem PySem.Spec PyProof.Rows L2 Mir
def tForB (wi : TI) (t : V → TS) : TS := fun D σ H => wi σ H fun J H1 => ∃ W : Nat → Nat → L2.St → Hp → Prop, (∃ m, W 0 m σ H1) ∧ ∀ i m σ H, W i m σ H →
  (J.stop i H ∧ D.nx σ H) ∨ (J.go i H ∧ ∃ N : L2.St → Hp → Prop, (∀ σ' H', N σ' H' → ∃ m', m' < m ∧ W (i + 1) m' σ' H') ∧ ∀ x H', J.yld i H x H' → t x { D with nx := N, ct := N, bk := D.nx } σ H')
section
variable {X : Cx}
theorem ps_forB {tg iter : Expr} {body : List Stmt} {wi : TI} {t : V → TS} {pos : Pos} (hp : PassesOwn (model X.prog X.w) X.A X.env X.xe) (hc : X.calm = true) (hi : PI X tg iter wi) (hg : PGB X tg body t)
    (hs : ∀ x, foldedSetIterable iter X.env x = pure x := by intro _; rfl) : PS X (.For tg iter body [] pos) (tForB wi t) := by
  refine ⟨fun pins s σ H D I h => ?_⟩
  refine wpAny_For (thn (hi.run pins s σ H _ I h) fun v s1 h1 => thn h1 fun itv s2 h2 => ?_) hs
  obtain ⟨it, fp, tn, J, H2, e, I2, T, st2, f2, W, ⟨m0, w0⟩, turn⟩ := h2
  subst e
  have stat : ∀ {H' : Hp}, (∀ b ∈ fp, H' b = none) → ∀ b ∈ fp, FpOk X pins H' b := fun hn b hb => ⟨hn b hb, (f2 b hb).2⟩
  refine codeAny_forLoop_any (fun n s' => ∃ i σ' H', Inv X pins σ' H' s' ∧ tn i s'.heap ∧ (∀ b ∈ fp, H' b = none) ∧ W i n σ' H') ?_ m0 ⟨0, σ, H2, I2, st2, fun b hb => (f2 b hb).1, w0⟩
  rintro n s3 ⟨i, σ3, H3, I3, st3, fr3, w3⟩
  rcases turn i n σ3 H3 w3 with ⟨stop, qn⟩ | ⟨go, N, hN, step⟩
  · refine wpAny_passesOwn hp (thn (T.done X rfl rfl rfl hc i pins s3 σ3 H3 X.xe I3 (stat fr3) st3 stop) fun r s4 ⟨hr, I4⟩ => ?_)
    subst hr
    exact wpAny_execs_nil ⟨σ3, H3, I4, qn⟩
  · refine wpAny_passesOwn hp (thn (T.item X rfl rfl rfl hc i pins s3 σ3 H3 X.xe I3 (stat fr3) st3 go) fun r s4 ⟨u, hr, h4⟩ => ?_)
    subst hr
    refine wpAny_passesOwn hp (thn h4 fun _ s5 ⟨x, H5, I5, r5, y5, st5, fr5⟩ => ?_)
    have I5' := I5.pinned (stat fr5) (T.obj _ _ st5)
    refine wpAny_passesOwn hp (thn (hg _ s5 σ3 H5 x u { nx := N, ct := N, bk := D.nx, rt := D.rt } I5' r5 (step x H5 y5)) fun _ s6 w6 => ?_)
    refine wpAny_passesOwn hp (thn w6 fun f s7 q7 => ?_)
    have again : ∀ {σ7 : L2.St} {H7 : Hp}, Inv X (pins ++ pinsAt fp s5.heap) σ7 H7 s7 → N σ7 H7 → ∃ m, m < n ∧ ∃ i σ' H', Inv X pins σ' H' s7 ∧ tn i s7.heap ∧ (∀ b ∈ fp, H' b = none) ∧ W i m σ' H' := fun {σ7 H7} I7 n7 => by
      obtain ⟨m', hm, w7⟩ := hN σ7 H7 n7
      refine ⟨m', hm, i + 1, σ7, H7, I7.unpinned, T.keep _ _ _ st5 fun b hb o e => (I7.pin (b, o) (List.mem_append_right _ (List.mem_append_right _ (mem_pinsAt hb e)))).1, fun b hb => ?_, w7⟩
      obtain ⟨o, e, d⟩ := T.obj _ _ st5 b hb
      exact (I7.pin (b, o) (List.mem_append_right _ (List.mem_append_right _ (mem_pinsAt hb e)))).2.1
    cases f with
    | next => obtain ⟨σ7, H7, I7, n7⟩ := q7; exact again I7 n7
    | cont => obtain ⟨σ7, H7, I7, n7⟩ := q7; exact again I7 n7
    | brk => obtain ⟨σ7, H7, I7, q7⟩ := q7; exact ⟨σ7, H7, I7.unpinned, q7⟩
    | ret v => obtain ⟨x7, σ7, H7, I7, r7, q7⟩ := q7; exact ⟨x7, σ7, H7, I7.unpinned, r7, q7⟩
def tPairT (y z : Str) : TE := fun _ H Q => ∀ (a : Addr) (o : Obj) (t u : Tok) (n : Nat), H a = none → o.cls = .type "tuple" → o.data = .seq #[.str y t, .str z u] n → t ≠ 0 → u ≠ 0 → t ≠ u → Q (.ref a) (upd H a (.frz o (.tup [.str y, .str z])))
theorem pet_pairT {y z : Str} {j0 j1 n : Nat} {c0 c1 pos : Pos} : PET X (.Tuple [.Constant (.str y) j0 c0, .Constant (.str z) j1 c1] n pos) (tPairT y z) := by
  intro pins s σ H Q h0 I h
  refine wpAny_Tuple_spliced ?_
  show wpAny _ _ (spliced ((false, eval (.Constant (.str y) j0 c0) X.env) :: backTo pos (starEach [.Constant (.str z) j1 c1] X.env))) _ _ s
  refine Calls.spliced_cons (Calls.Constant_str ?_)
  show wpAny _ _ (spliced ((false, eval (.Constant (.str z) j1 c1) X.env) :: backTo pos (starEach [] X.env))) _ _ _
  refine Calls.spliced_cons (Calls.Constant_str (Calls.spliced_nil ?_))
  have h2 : (2 : Nat) ≤ sizeLine := by decide
  refine ⟨h2, .ref s.heap.objs.size, upd H s.heap.objs.size (.frz { cls := .type "tuple", data := .seq #[.str y s.toks, .str z (s.toks + 1)] 0 } (.tup [.str y, .str z])), ?_, rfl, ?_⟩
  · refine I.laid (t' := s.toks + 1 + 1) (fun b u e => Heap.get?_push_of_some _ e) (Nat.le_refl _) ⟨Heap.get?_push_size _ rfl, h2, [.str y s.toks, .str z (s.toks + 1)], .cons ⟨_, rfl⟩ (.cons ⟨_, rfl⟩ .nil), ⟨_, Heap.get?_push_size _ rfl, rfl, _, rfl⟩⟩
  · exact h _ _ s.toks (s.toks + 1) 0 (I.hok.fresh (Nat.le_refl _)) rfl rfl (show s.toks ≠ 0 by omega) (show s.toks + 1 ≠ 0 by omega) (show s.toks ≠ s.toks + 1 by omega)
theorem PAT.of {es : List Expr} {t : TA} (h : PA X es t) : PAT X es t := fun pos pins s σ H Q _ I q => h.run pos pins s σ H Q I q
theorem pst_set {i : Nat} {x : Str} {e : Expr} {te : TE} {pos pos' : Pos} (hN : X.N.Nodup) (hi : X.N[i]? = some x) (hx : Loc X.env.scope x) (he : PET X e te) (hs : swapsWith e (some (.Name x pos')) pos.line X.env = pure false := by rfl) (hf : X.fn x = true ∨ X.env.scope.names.lookup x = some .local := by first | exact .inl rfl | exact .inr rfl | assumption) :
    PST X (.Assign [.Name x pos'] e pos) (tAsg te (gName i)) := by
  intro pins s σ H D h0 I h
  refine wpAny_Assign_Name (thn (he pins s σ H _ h0 I h) fun v s1 ⟨y, H1, I1, r1, q1⟩ => ?_) hs
  exact store_ok I1 hN hi hx r1 (fun s2 I2 => ⟨_, H1, I2, q1⟩) hf
end
end Rw
namespace Mir
open PySem L2
def repGo (ia ib ik : Nat) : List P → En → Option En
  | [], ρ => some ρ
  | .rwp y z :: xs, ρ => (match ρ[ik]? with
    | some (some (.p (.str x))) => if 1 ≤ y.length ∧ x.length + (x.length + 1) * z.length ≤ 16777216 then repGo ia ib ik xs (((ρ.set ia (some (.p (.str y)))).set ib (some (.p (.str z)))).set ik (some (.p (.str (StrLaws.replL y z x))))) else none
    | _ => none)
  | _, _ => none
def sForRep (it : MI) (ia ib ik : Nat) : MS := fun ρ S => (it ρ S).go ρ fun xs S1 => match repGo ia ib ik xs ρ with
  | some ρ2 => .ok (.nx ρ2) S1
  | none => .bad
def OAT (X : Cx) (W : WX) (es : List Expr) (m : MA) : Prop := ∃ t, PAT X es t ∧ ∀ (ρ : En) (S : Sto) (io : Io) (F : Hp) (σ : St) (H : Hp) (Q : List V → Hp → Prop), Sta X.K io F S H → Env X.K io F ρ σ →
  RG X.K (RepAs X.K) (m ρ S) io F H Q (fun c d H' => W c d σ H') → t σ H Q
def aRwp (y z : List Nat) (r : MA) : MA := fun ρ S => (r ρ S).bind fun ds S1 => .ok (.p (.rwp y z) :: ds) S1
theorem repl_strOf {x y z : List Nat} (hy : 1 ≤ y.length) : Txt.replace (strOf x) (strOf y) (strOf z) = strOf (StrLaws.replL y z x) := by
  have h := StrLaws.replace_list (x := strOf x) (y := strOf y) (z := strOf z) (by rw [strOf_length]; exact hy)
  rw [strOf_cps, strOf_cps, strOf_cps] at h
  rw [← h, strOf_back]
section
variable {X : Cx} {W : WX} {iter : Expr} {it : MI} {a b k : Str} {ia ib ik n0 : Nat} {p1 p2 p3 p4 p5 p6 tpos apos cpos pos fpos : Pos}
theorem os_forRep (hp : PassesOwn (model X.prog X.w) X.A X.env X.xe) (hc : X.calm = true) (hN : X.N.Nodup) (hi : OI X W (.Tuple [.Name a p1, .Name b p2] n0 tpos) iter it)
    (nak : ia ≠ ik := by decide) (nbk : ib ≠ ik := by decide) (hab : a ≠ b := by decide)
    (ha : X.N[ia]? = some a := by rfl) (hb : X.N[ib]? = some b := by rfl) (hk : X.N[ik]? = some k := by rfl)
    (la : X.env.kindOf a = some .local := by rfl) (lb : X.env.kindOf b = some .local := by rfl) (lk : X.env.kindOf k = some .local := by rfl)
    (da : (a == ("__debug__" : Str)) = false := by decide) (db : (b == ("__debug__" : Str)) = false := by decide) (dk : (k == ("__debug__" : Str)) = false := by decide) (dk2 : (k == ("__classdict__" : Str)) = false := by decide)
    (hst : starEach [.Name a p4, .Name b p5] X.env = [(false, eval (.Name a p4) X.env), (false, eval (.Name b p5) X.env)] := by rfl)
    (hbase : attributeBase (.Name k p3) "replace" X.env (eval (.Name k p3) X.env) = eval (.Name k p3) X.env := by rfl) (hline : (apos.endLine == cpos.line) = true := by rfl)
    (hn : (assignEach [.Name a p1, .Name b p2] X.env).length = 2 := by rfl) (hf : (assignEach [.Name a p1, .Name b p2] X.env).findIdx? (·.1) = none := by rfl)
    (hm : (assignEach [.Name a p1, .Name b p2] X.env).map (·.2) = [assign (.Name a p1) X.env, assign (.Name b p2) X.env] := by rfl)
    (hs : swapsWith (.Call (.Attribute (.Name k p3) "replace" apos) [.Name a p4, .Name b p5] [] cpos) (some (.Name k p6)) pos.line X.env = pure false := by rfl)
    (hs2 : ∀ x, foldedSetIterable iter X.env x = pure x := by intro _; rfl) :
    OS X W (.For (.Tuple [.Name a p1, .Name b p2] n0 tpos) iter [.Assign [.Name k p6] (.Call (.Attribute (.Name k p3) "replace" apos) [.Name a p4, .Name b p5] [] cpos) pos] [] fpos) (sForRep it ia ib ik) := by
  obtain ⟨t, p, hi⟩ := hi
  refine ⟨_, Rw.ps_forB hp hc p (Rw.pgb_repl hc hN ha hb hk la lb lk hab da db dk dk2 hst hbase hline hn hf hm hs) hs2, fun ρ S io F σ H D st en h => ?_⟩
  refine hi ρ S io F σ H _ st en (RS.go en h fun xs S1 io1 F1 H1 J e1 n1 s1 ij h1 => ?_)
  refine ⟨fun i k σ' H' => k = xs.length - i ∧ i ≤ xs.length ∧ ∃ ρ' io' F', Same F1 F' ∧ Sta X.K io' F' S1 H' ∧ Mir.Env X.K io' F' ρ' σ' ∧ RS X.K (match repGo ia ib ik (xs.drop i) ρ' with
      | some ρ2 => .ok (.nx ρ2) S1
      | none => .bad) io' F' H' D W,
    ⟨xs.length, by simp, Nat.zero_le _, ρ, io1, F1, Same.refl _, s1, en.nxt n1, h1⟩, ?_⟩
  rintro i k σ' H' ⟨rfl, hle, ρ', io', F', hF, s', en', h'⟩
  obtain ⟨go, stop⟩ := ij io' F' S1 H' i hF s'
  cases hx : xs[i]? with
  | none =>
    have hd : xs.drop i = [] := List.drop_eq_nil_of_le (List.getElem?_eq_none_iff.mp hx)
    rw [hd] at h'
    exact .inl ⟨stop hx, h' io' F' H' σ' Nxt.refl s' en'⟩
  | some x =>
    have hlt : i < xs.length := (List.getElem?_eq_some_iff.mp hx).1
    have hd : xs.drop i = x :: xs.drop (i + 1) := by
      rw [List.drop_eq_getElem_cons hlt]
      congr 1
      exact (List.getElem?_eq_some_iff.mp hx).2
    rw [hd] at h'
    obtain ⟨g1, g2⟩ := go x hx
    refine .inr ⟨g1, fun σ2 H2 => ∃ ρ2 io2 F2, Same F1 F2 ∧ Sta X.K io2 F2 S1 H2 ∧ Mir.Env X.K io2 F2 ρ2 σ2 ∧ RS X.K (match repGo ia ib ik (xs.drop (i + 1)) ρ2 with
      | some ρ2 => .ok (.nx ρ2) S1
      | none => .bad) io2 F2 H2 D W, fun σ2 H2 hn => ⟨xs.length - (i + 1), by omega, rfl, hlt, hn⟩, fun v H'' hy => ?_⟩
    obtain ⟨F'', n2, s2, rv⟩ := g2 v H'' hy
    cases x with
    | rwp y z =>
      cases hk2 : ρ'[ik]? with
      | none => unfold repGo at h'; rw [hk2] at h'; exact h'.elim
      | some o =>
        cases o with
        | none => unfold repGo at h'; rw [hk2] at h'; exact h'.elim
        | some d =>
          cases d with
          | c _ => unfold repGo at h'; rw [hk2] at h'; exact h'.elim
          | p q =>
            cases q with
            | str x =>
              unfold repGo at h'
              rw [hk2] at h'
              dsimp only at h'
              by_cases hz : 1 ≤ y.length ∧ x.length + (x.length + 1) * z.length ≤ 16777216
              · rw [if_pos hz] at h'
                obtain ⟨hy1, hz⟩ := hz
                obtain ⟨a0, t0, u0, rfl, rt⟩ := (show Rep X.K F'' (.rwp y z) v from rv)
                have en2 := en'.nxt n2
                obtain ⟨vk, hσk, rk⟩ := en2.get hk2
                have rk : vk = .str (strOf x) := rk
                subst rk
                have rt' : RawT X.K H'' a0 (strOf y) (strOf z) t0 u0 := by
                  obtain ⟨⟨o, n, q1, q2, q3⟩, q4⟩ := rt
                  exact ⟨⟨o, n, q1.imp (fun q => s2.sub _ _ q) id, q2, q3⟩, q4⟩
                refine ⟨a0, _, _, t0, u0, strOf x, rfl, rt', nak, nbk, hσk, by rw [strOf_length, strOf_length]; exact hz, ?_⟩
                refine ⟨_, _, _, hF.trans n2.fr, s2, ?_, RS.step n2 h'⟩
                have e3 := ((en2.set (d := .p (.str y)) (v := .str (strOf y)) rfl ia).set (d := .p (.str z)) (v := .str (strOf z)) rfl ib).set (d := .p (.str (StrLaws.replL y z x))) (v := .str (strOf (StrLaws.replL y z x))) rfl ik
                rw [repl_strOf hy1]
                exact e3
              · rw [if_neg hz] at h'; exact h'.elim
            | _ => unfold repGo at h'; rw [hk2] at h'; exact h'.elim
    | _ => exact h'.elim
end
section
variable {X : Cx} {W : WX} {es : List Expr} {mas : MA} {rest : List Stmt} {mrest : MS}
theorem oat_of (h : OA X W es mas) : OAT X W es mas := by
  obtain ⟨t, p, h⟩ := h
  exact ⟨t, Rw.PAT.of p, h⟩
theorem oat_pair {y z : List Nat} {y' z' : Str} {j0 j1 n : Nat} {c0 c1 pos : Pos} (hr : OAT X W es mas) (ey : y' = strOf y := by rfl) (ez : z' = strOf z := by rfl) (hne : (strOf y == strOf z) = false := by decide)
    (hs : starEach (.Tuple [.Constant (.str y') j0 c0, .Constant (.str z') j1 c1] n pos :: es) X.env = (false, eval (.Tuple [.Constant (.str y') j0 c0, .Constant (.str z') j1 c1] n pos) X.env) :: starEach es X.env := by rfl) :
    OAT X W (.Tuple [.Constant (.str y') j0 c0, .Constant (.str z') j1 c1] n pos :: es) (aRwp y z mas) := by
  subst ey ez
  obtain ⟨t, p, hr⟩ := hr
  refine ⟨_, pat_cons Rw.pet_pairT p hs, fun ρ S io F σ H Q st en h => ?_⟩
  intro a o t0 u0 n0 hH hc hd h1 h2 h3
  obtain ⟨s3, n3⟩ := st.froze (o := .frz o (.tup [.str (strOf y), .str (strOf z)])) hH
  have h' := RG.step n3 h
  unfold aRwp at h'
  refine hr ρ S io _ σ _ _ s3 (en.nxt n3) (RG.bind h' fun ds S2 io2 F2 H2 vs e2 n2 s2 r2 h2' => ?_)
  have rp : RepV X.K io2 F2 (.p (.rwp y z)) (.ref a) := Rep.mono (K := X.K) (x := .rwp y z) n2.fr ⟨a, t0, u0, rfl, ⟨⟨o, n0, .inl upd_same, hc, hd⟩, h1, h2, h3, hne⟩⟩
  exact RG.val (R := RepAs X.K) (d := .p (.rwp y z) :: ds) s2 ⟨.ref a, vs, rfl, rp, r2⟩ h2'
def OET (X : Cx) (W : WX) (e : Expr) (m : ME) : Prop := ∃ t, PET X e t ∧ ∀ (ρ : En) (S : Sto) (io : Io) (F : Hp) (σ : St) (H : Hp) (Q : VK), Sta X.K io F S H → Env X.K io F ρ σ →
  RG X.K (RepA X.K) (m ρ S) io F H Q (fun c d H' => W c d σ H') → t σ H Q
theorem oet_lst {pos : Pos} (h : OAT X W es mas) : OET X W (.List es pos) (eLst mas) := by
  obtain ⟨t, p, h⟩ := h
  refine ⟨_, pet_lst p, fun ρ S io F σ H Q st en hw => ?_⟩
  refine h ρ S io F σ H _ st en (RG.bind hw fun d S1 io1 F1 H1 v e1 n1 s1 r1 h1 => ?_)
  obtain ⟨xs, S2, F2, n2, s2, rp, h2⟩ := s1.frzs r1 h1
  have hlen := rp.length
  by_cases hz : xs.length ≤ 100000
  · rw [if_pos hz] at h2
    refine ⟨by rw [hlen]; exact sz5 hz, fun q hq => ?_⟩
    obtain ⟨s3, n3⟩ := s2.froze (o := .lst v) hq
    exact h2 io1 _ _ (.ref q) n3 s3 ⟨q, v, rfl, upd_same, RepL.mono n3.fr rp⟩
  · rw [if_neg hz] at h2
    exact h2.elim
end
end Mir

namespace Rw
open PySem PySem.Spec PyProof.Rows
section
variable {M : Model} {A : Around} {E : Value → Shared → Prop} {s₀ s : Shared} {m cm : Str → Option Value} {env : PySem.Env}
theorem stLCT {n : Str} {v : Value} {Q : Unit → Shared → Prop} (x : InCallC s₀ env.locals m env.cells cm s) (hk : env.scope.kind = .function) (hl : env.kindOf n = some .local)
    (h : ∀ s', 1 ≤ s'.toks → InCallC s₀ env.locals (fun y => if y = n then some v else m y) env.cells cm s' → Q () s') : wpAny M A (storeName env n v) Q E s := by
  refine wpAny_storeName_local hl x.toInCall.ns (fun h' hn' hs' => h _ (by show 1 ≤ s.toks + 1; omega) ⟨⟨?_, hn', fun b o e => ?_, x.toInCall.fresh⟩, fun k c hc => ?_, x.apart, x.above⟩) (by rw [hk]; rfl)
  · obtain ⟨h₁, tk, rfl⟩ := x.toInCall.same
    exact ⟨h', _, rfl⟩
  · exact hs'.extBut b o (Nat.ne_of_lt (Nat.lt_of_lt_of_le (Heap.lt_size e) x.toInCall.fresh)) (x.toInCall.keep b o e)
  · exact (x.cell k c hc).sameBut hs' (Nat.ne_of_gt (x.above k c (mem_of_lookup hc)))
theorem wpAny_bindParamsT (f : Str × Value → PUnit → Sem (ForInStep PUnit)) (hf : ∀ n v u, f (n, v) u = (do storeName env n v; pure (.yield ⟨⟩))) (hk : env.scope.kind = .function) :
    ∀ (binds : List (Str × Value)) (m cm : Str → Option Value) (s : Shared) (Q : PUnit → Shared → Prop), InCallC s₀ env.locals m env.cells cm s → (1 ≤ s.toks ∨ binds ≠ []) →
      (∀ x ∈ binds, env.kindOf x.1 = some .local) →
      (∀ s', 1 ≤ s'.toks → InCallC s₀ env.locals (bindL env.kindOf binds m) env.cells (bindC env.kindOf binds cm) s' → Q ⟨⟩ s') → wpAny M A (forIn binds ⟨⟩ f) Q E s
  | [], m, cm, s, Q, x, ht, _, h => by
    rw [List.forIn_nil]
    exact wpAny_pure (h s (ht.elim id fun z => absurd rfl z) x)
  | (n, v) :: r, m, cm, s, Q, x, ht, hkind, h => by
    rw [List.forIn_cons, hf]
    have hr : ∀ y ∈ r, env.kindOf y.1 = some .local := fun y hy => hkind y (List.mem_cons_of_mem _ hy)
    have hl := hkind (n, v) List.mem_cons_self
    refine wpAny_bind (wpAny_bind (stLCT x hk hl fun s' ht' x' => wpAny_pure (wpAny_bindParamsT f hf hk r _ _ s' Q x' (.inl ht') hr fun s'' h1 x'' => h s'' h1 ?_)))
    unfold bindL bindC; rw [if_pos hl, if_pos hl]; exact x''
theorem wpAny_newFunctionEnv_cellsT {scope : Scope} {globals : Addr} {binds : List (Str × Value)} {qual : Str} {func : Option Addr} {code : Value} {builtins : Addr} {Q : PySem.Env → Shared → Prop}
    (hk : scope.kind = .function) (hne : binds ≠ [])
    (hkind : ∀ x ∈ binds, scope.names.lookup x.1 = some .local)
    (hQ : ∀ env, env = newEnv scope s.heap.objs.size globals (cellsFrom (s.heap.objs.size + 1) scope.names []) qual func code none builtins →
      ∀ s', 1 ≤ s'.toks → InCallC s env.locals (bindL env.kindOf binds fun _ => none) env.cells (bindC env.kindOf binds fun _ => none) s' → Q env s') :
    wpAny M A (newFunctionEnv scope globals [] binds qual func code none builtins) Q E s := by
  simp only [newFunctionEnv, Option.isSome_none, Bool.false_eq_true, if_false]
  refine wpAny_bind (wpAny_alloc ?_)
  refine wpAny_bind (wpAny_layCells _ (fun name kind cells => by cases hkc : kind == NameKind.cell <;> simp [hkc]) _ _ _ _ ?_)
  have ok := cellsFrom_ok scope.names (s.heap.push { cls := .type "frame", data := .dict #[] }) (s.heap.objs.size + 1) [] ⟨fun _ _ hm => (nomatch hm), List.Pairwise.nil⟩ (by rw [Heap.size_push]; exact Nat.le_refl _)
  rw [Heap.size_push] at ok
  rw [show ({ s with heap := s.heap.push { cls := .type "frame", data := .dict #[] } } : Shared).heap.objs.size = s.heap.objs.size + 1 from Heap.size_push ..]
  refine wpAny_bind (wpAny_bindParamsT (s₀ := s) (env := newEnv scope s.heap.objs.size globals (cellsFrom (s.heap.objs.size + 1) scope.names []) qual func code none builtins)
    _ (fun _ _ _ => rfl) hk binds (fun _ => none) (fun _ => none) _ _
    ⟨⟨⟨_, _, rfl⟩, (Heap.Ns.new s.heap (.type "frame")).keeps (pushCells_keeps _ _), fun b o e => pushCells_keeps _ _ b o (Heap.get?_push_of_some _ e), Nat.le_refl _⟩,
      fun n c hc => (ok.empty n c (mem_of_lookup hc)).1, ok.apart, fun n c hm => (ok.empty n c hm).2⟩ (.inr hne)
    hkind fun s' ht x => wpAny_pure (hQ _ rfl s' ht x))
end
end Rw
namespace Mir
open PySem L2
theorem fnG_ofT {P : Program} {w : World} {K : PySem.W.Frag} {mg : Str → Option Value} {base : Heap} {x qual : Str} {params : Arguments} {body : List Stmt} {scope : Scope} {dvs : List V} {kws : List (Str × V)} {f : Addr} {fd : FuncData} {N ps : List Str} {k : Nat} {sp : Sp}
    (F : FunD K x qual params body scope dvs kws f fd) (S : FnScope N ps scope) (hne : ps ≠ []) (hloc : ∀ y ∈ ps, scope.names.lookup y = some .local) (len : ∀ vs H Q E, sp vs H Q E → vs.length = ps.length)
    (hbody : ∀ (cdv : Value) (A : Around) (outer : List PySem.Env) (s : Shared) (H : Hp) (vs : List V) (Q : VK) (E : XK), fd.code = cdv → RoomG k (A.deeper (PyProof.Rows.envOfC qual scope s.heap.objs.size f cdv)) → sp vs H Q E →
      ∃ t, PSsT (cxOf (L2.CX P w) P w K mg base N qual scope f cdv A outer s H E) body t ∧ t { nx := fun _ H' => Q .non H', rt := Q } (L2.start N vs) H) : FnG P w K mg base (k + 1) f fd ps sp := by
  obtain ⟨oc, od, dV, kV, doc, pm, an, cdv, ct, osl, rfl, lk, hcd, _, _⟩ := F.ex
  refine ⟨len, fun A outer s H args us vs Q E hr e0 hb r hsp => ?_⟩
  have KX : K.In s.heap := e0.mod.kin.keeps fun b o e => (e0.bs b o e).1
  have lim : s.heap.NoLimit := e0.mod.nolimit.keeps fun b o e => (e0.bs b o e).1
  have hl : us.length = ps.length := by rw [← r.length]; exact len _ _ _ _ hsp
  have hzip : ps.zip us ≠ [] := fun z => by
    have : (ps.zip us).length = 0 := by rw [z]; rfl
    rw [List.length_zip, hl, Nat.min_self] at this
    exact hne (List.length_eq_zero_iff.mp this)
  refine codeAny_call_function hr.r.depth (KX _ _ lk) rfl S.co S.gen rfl (PySem.W.codeRec_of KX hcd) (hb _ _ _ _ ?_)
  refine Rw.wpAny_newFunctionEnv_cellsT S.kind hzip (fun y hy => hloc y.1 (List.of_mem_zip hy).1) fun env he s1 ht1 x => ?_
  subst he
  obtain ⟨t, ht, hq⟩ := hbody cdv A outer s H vs Q E rfl (hr.deeper _) hsp
  refine ⟨lim.keeps x.toInCall.keep, codeAny_func ?_⟩
  refine wpAny_mono (ht [] s1 (L2.start N vs) H _ ht1 (inv_start S hr.r.hd e0 (len _ _ _ _ hsp) r x) hq) (fun fl s' hs => ?_) fun e s' hs => hs
  cases fl with
  | ret u =>
    obtain ⟨v, σ', H', J, rv, q⟩ := hs
    exact ⟨v, H', J.os, J.bare, J.base, J.hok, rv, q⟩
  | next =>
    obtain ⟨σ', H', J, q⟩ := hs
    exact ⟨.non, H', J.os, J.bare, J.base, J.hok, rfl, q⟩
  | brk =>
    obtain ⟨_, _, _, q⟩ := hs
    exact q.elim
  | cont =>
    obtain ⟨_, _, _, q⟩ := hs
    exact q.elim
def OSsT (X : Cx) (W : WX) (st : List Stmt) (m : MS) : Prop := ∃ t, PSsT X st t ∧ ∀ (ρ : En) (S : Sto) (io : Io) (F : Hp) (σ : St) (H : Hp) (D : Ends), Sta X.K io F S H → Env X.K io F ρ σ →
  RS X.K (m ρ S) io F H D W → t D σ H
section
variable {P : Program} {w : World} {K : PySem.W.Frag} {mg : Str → Option Value} {base : Heap} {x qual : Str} {params : Arguments} {body : List Stmt} {scope : Scope} {dvs : List V} {kws : List (Str × V)} {f : Addr} {fd : FuncData} {N ps : List Str} {k nl : Nat} {m : MS}
theorem fn_okT (F : FunD K x qual params body scope dvs kws f fd) (sc : FnScope N ps scope) (hN : N.length = ps.length + nl)
    (hb : ∀ (cdv : Value) (A : Around) (outer : List PySem.Env) (s : Shared) (H : Hp) (E : XK), RoomG k (A.deeper (PyProof.Rows.envOfC qual scope s.heap.objs.size f cdv)) → OSsT (cxOf (L2.CX P w) P w K mg base N qual scope f cdv A outer s H E) (fun c d _ H' => E c d H') body m)
    (hne : ps ≠ [] := by simp) (hloc : ∀ y ∈ ps, scope.names.lookup y = some .local := by decide +kernel) :
    FnG P w K mg base (k + 1) f fd ps (spM K (mkF ps.length nl m)) := by
  refine fnG_ofT F sc hne hloc (fun vs H Q E h => spM_len h) fun cdv A outer s H vs Q E _ hr h => ?_
  obtain ⟨t, pt, ht⟩ := hb cdv A outer s H E hr
  refine ⟨t, pt, ?_⟩
  have hl := spM_len h
  obtain ⟨io, FF, S, ds, st, r, h⟩ := h
  have hd : ds.length = ps.length := by rw [← r.length]; exact hl
  unfold mkF at h
  rw [if_pos hd] at h
  have e0 := Env.start (K := K) (io := io) (F := FF) nl r
  have hst : L2.start N vs = vs.map some ++ List.replicate nl none := by
    unfold L2.start
    rw [hN, hl]
    congr 2
    omega
  rw [hst]
  refine ht _ S io FF _ H _ st e0 ?_
  show RS K (m (ds.map some ++ List.replicate nl none) S) io FF H { nx := fun _ H' => Q .non H', rt := Q } (fun c d _ H' => E c d H')
  cases q : m (ds.map some ++ List.replicate nl none) S with
  | bad => rw [q] at h; exact h.elim
  | ok fl S1 =>
    rw [q] at h
    cases fl with
    | nx ρ => exact fun io1 F1 H1 σ1 nx s1 en1 => h (io1.take S.length) F1 H1 .non (nx.cut st.len) (s1.cut _) rfl
    | rt d => exact fun io1 F1 H1 v nx s1 r1 => ret_ok st.len nx s1 r1 h
    | bk ρ => exact h.elim
    | ct ρ => exact h.elim
    | xc ρ c x => exact fun io1 F1 H1 d σ1 nx s1 en1 xr => h (io1.take S.length) F1 H1 d (nx.cut st.len) (s1.cut _) xr
end
section
variable {X : Cx} {W : WX} {es : List Expr} {mas : MA} {rest : List Stmt} {mrest : MS}
theorem osst_pairs {i : Nat} {x : Str} {lp pos' pos : Pos} (hN : X.N.Nodup) (ha : OAT X W es mas) (hr : OSs X W rest mrest) (hi : X.N[i]? = some x := by rfl) (hx : Loc X.env.scope x := by first | exact Or.inl rfl | exact Or.inr rfl)
    (hs : swapsWith (.List es lp) (some (.Name x pos')) pos.line X.env = pure false := by rfl) (hf : X.fn x = true ∨ X.env.scope.names.lookup x = some .local := by first | exact .inl rfl | exact .inr rfl) :
    OSsT X W (.Assign [.Name x pos'] (.List es lp) pos :: rest) (sSeq (sAsg (eLst mas) (gNm i)) mrest) := by
  obtain ⟨t, pa, ha⟩ := oet_lst (pos := lp) ha
  obtain ⟨u, pr, hr⟩ := hr
  refine ⟨_, psst_cons (Rw.pst_set hN hi hx pa hs hf) (PSsT.of pr), fun ρ S io F σ H D st en h => ?_⟩
  have h : RS X.K (((eLst mas) ρ S).go ρ fun d S1 => mrest (ρ.set i (some d)) S1) io F H D W := by
    unfold sSeq sAsg at h
    cases q : eLst mas ρ S with
    | ok d S1 => rw [q] at h; exact h
    | exc c x S1 => rw [q] at h; exact h
    | bad => rw [q] at h; exact h
  refine ha ρ S io F σ H _ st en (RS.go en h fun d S1 io1 F1 H1 v e1 n1 s1 r1 h1 => ?_)
  exact hr (ρ.set i (some d)) S1 io1 F1 (σ.set i (some v)) H1 _ s1 ((en.nxt n1).set r1 i) h1
end
end Mir

namespace Mir
open PySem L2
def dnPut (k : NestedKey) (kp x : P) (ks xs : List P) : List P × List P := match nAt k ks xs with
  | some _ => (ks, xs)
  | none => (ks ++ [kp], xs ++ [x])
abbrev MD := List Vl → Sto → Option (List P × List P × Sto)
def dnGo (y n : Nat) (key : ME) : List P → En → Sto → List P → List P → Option (List P × List P × Sto)
  | [], _, S, ks, xs => some (ks, xs, S)
  | it :: its, ρ, S, ks, xs => match key (ρ.set y (some (.p it))) S with
    | .ok (.p kp) S1 => (match nkD kp with
      | some k => if n ≤ S1.length then dnGo y n key its (ρ.set y (some (.p it))) (S1.take n) (dnPut k kp it ks xs).1 (dnPut k kp it ks xs).2 else none
      | none => none)
    | _ => none
def dnRun (x y : Nat) (it : MI) (key : ME) (ρ : En) (S : Sto) : Option (List P × List P × Sto) := match it (ρ.set x none) S with
  | .ok xs S1 => if xs.length ≤ 50000 ∧ S.length ≤ S1.length ∧ x < ρ.length ∧ y < ρ.length then dnGo y S.length key xs (ρ.set x none) (S1.take S.length) [] [] else none
  | _ => none
def mkD (np nl x y : Nat) (it : MI) (key : ME) : MD := fun ds S => if ds.length = np then dnRun x y it key (ds.map some ++ List.replicate nl none) S else none
def DnEnd (K : PySem.W.Frag) (w : World) (io : Io) (F H : Hp) (r : List P × List P × Sto) (Q : VK) : Prop := ∀ io1 F1 H1 a es, Nxt io F H io1 F1 H1 → Sta K io1 F1 r.2.2 H1 → H a = none → (∀ k : Nat, io1[k]? ≠ some (some a)) → F1 a = none →
  H1 a = some (DNo (fun k => k.hash w) a es) → nkL r.1 = some (es.map (·.1)) → RepL K F1 r.1 (es.map fun e => .ref e.2.1) → RepL K F1 r.2.1 (es.map (·.2.2)) → Q (.ref a) H1
def spD (K : PySem.W.Frag) (w : World) (m : MD) : Sp := fun vs H Q E => ∃ io F S ds r, Sta K io F S H ∧ RepVs K io F ds vs ∧ m ds S = some r ∧ DnEnd K w io F H r Q
def ODn (X : Cx) (W : WX) (body : List Stmt) (x y : Nat) (it : MI) (key : ME) : Prop := ∃ t, PSs X body t ∧ ∀ (ρ : En) (S : Sto) (io : Io) (F : Hp) (σ : St) (H : Hp) (D : Ends) (r : List P × List P × Sto), Sta X.K io F S H → Env X.K io F ρ σ →
  dnRun x y it key ρ S = some r → DnEnd X.K X.w io F H r D.rt → t D σ H
theorem kept_out {K : PySem.W.Frag} {io' io2 : Io} {F' F2 H' H2 : Hp} {b : Addr} {o : HO} (n : Nxt io' F' H' io2 F2 H2) (hb : H' b = some o) (hi0 : ∀ k : Nat, io'[k]? ≠ some (some b)) (hf : F' b = none) : (∀ k : Nat, io2[k]? ≠ some (some b)) ∧ F2 b = none ∧ H2 b = some o := by
  refine ⟨fun k e => ?_, ?_, n.out b _ hb hi0⟩
  · rcases n.new k b e with z | z
    · exact hi0 k z
    · rw [hb] at z; cases z
  · cases q : F2 b with
    | none => rfl
    | some u =>
      rcases n.nf b (by rw [q]; exact fun z => nomatch z) with z | z | ⟨k, z⟩
      · exact absurd hf z
      · rw [hb] at z; cases z
      · exact absurd z (hi0 k)
theorem take_out {io' : Io} {b : Addr} (n : Nat) (h : ∀ k : Nat, io'[k]? ≠ some (some b)) : ∀ k : Nat, (io'.take n)[k]? ≠ some (some b) := by
  intro k e
  rw [List.getElem?_take] at e
  split at e
  · exact h k e
  · cases e
theorem env_len {K : PySem.W.Frag} : ∀ {io : Io} {F : Hp} {ρ : En} {σ : St}, Mir.Env K io F ρ σ → ρ.length = σ.length := by
  intro io F ρ
  induction ρ with
  | nil => intro σ e; have e : σ = [] := e; rw [e]; rfl
  | cons d ds ih =>
    intro σ e
    obtain ⟨o, r, e1, _, e2⟩ := e
    rw [e1, List.length_cons, List.length_cons, ih e2]
section
variable {X : Cx} {W : WX} {x y : Str} {i j k0 : Nat} {iter ke : Expr} {it : MI} {key : ME} {p1 p2 p3 p4 p5 p6 p8 p10 p12 p13 p14 p15 : Pos}
theorem odn (hp : PassesOwn (model X.prog X.w) X.A X.env X.xe) (hc : X.calm = true) (hN : X.N.Nodup) (hr : RoomG k0 X.A) (hi : OI X W (.Name y p4) iter it) (hk : OE X W ke key)
    (m2 : M2 X (.Name x p5) "setdefault" p6 ke (.Name y p10) p8 := by exact ⟨rfl, rfl, rfl, rfl⟩)
    (hx : X.N[i]? = some x := by rfl) (hy : X.N[j]? = some y := by rfl) (hij : i ≠ j := by decide) (lx : Loc X.env.scope x := by first | exact Or.inl rfl | exact Or.inr rfl) (ly : Loc X.env.scope y := by first | exact Or.inl rfl | exact Or.inr rfl)
    (vx : Vis X.env.scope x := by first | exact .inl rfl | exact .inr (.inl rfl)) (vy : Vis X.env.scope y := by first | exact .inl rfl | exact .inr (.inl rfl))
    (dx : (x == ("__debug__" : Str)) = false := by decide) (cx : (x == ("__classdict__" : Str)) = false := by decide) (dy : (y == ("__debug__" : Str)) = false := by decide) (cy : (y == ("__classdict__" : Str)) = false := by decide)
    (fx : X.fn x = true ∨ X.env.scope.names.lookup x = some .local := by first | exact .inl rfl | exact .inr rfl) (fy : X.fn y = true ∨ X.env.scope.names.lookup y = some .local := by first | exact .inl rfl | exact .inr rfl)
    (sw : swapsWith (.Dict [] [] p2) (some (.Name x p1)) p3.line X.env = pure false := by rfl)
    (fs : ∀ v, foldedSetIterable iter X.env v = pure v := by intro _; rfl)
    (se : swapsWith (.Call (.Attribute (.Name x p5) "setdefault" p6) [ke, .Name y p10] [] p8) none p12.line X.env = pure false := by rfl) :
    ODn X W [.Assign [.Name x p1] (.Dict [] [] p2) p3, .For (.Name y p4) iter [.Expr (.Call (.Attribute (.Name x p5) "setdefault" p6) [ke, .Name y p10] [] p8) p12] [] p13, .Return (some (.Name x p14)) p15] i j it key := by
  obtain ⟨wi, pi, hi⟩ := hi
  obtain ⟨ty, pk, hk⟩ := hk
  have s1 := ps_set (pos := p3) (pos' := p1) hN hx lx (pe_dnewN (X := X) (pos := p2)) sw fx
  have b1 := pe_setdN hr (pe_var (pos := p5) hx vx dx cx) pk (pe_var (pos := p10) hy vy dy cy) m2
  have s2 := ps_for (pos := p13) hp hc pi (pg_name (pos := p4) hN hy ly fy) (pss_one (ps_expr (pos := p12) b1 se)) fs
  refine ⟨_, pss_cons s1 (pss_cons s2 (pss_one (ps_ret (pos := p15) (pe_var (pos := p14) hx vx dx cx)))), fun ρ S io F σ H D r st en h0 hq => ?_⟩
  intro p hp0
  have hps : ∀ k : Nat, io[k]? ≠ some (some p) := st.notIn hp0
  have hFp : F p = none := Same.free st.sub hp0
  have stA : Sta X.K io F S (upd H p (DNo (fun k => k.hash X.w) p [])) := st.side hps hFp
  have nA : Nxt io F H io F (upd H p (DNo (fun k => k.hash X.w) p [])) := Nxt.refl.put hp0
  have enA : Mir.Env X.K io F (ρ.set i none) (σ.set i (some (.ref p))) := en.unset i _
  have hσl := env_len en
  unfold dnRun at h0
  refine hi (ρ.set i none) S io F _ _ _ stA enA ?_
  cases q0 : it (ρ.set i none) S with
  | bad => rw [q0] at h0; cases h0
  | exc _ _ _ => rw [q0] at h0; cases h0
  | ok its S1 =>
  rw [q0] at h0
  dsimp only at h0
  by_cases hz : its.length ≤ 50000 ∧ S.length ≤ S1.length ∧ i < ρ.length ∧ j < ρ.length
  · rw [if_pos hz] at h0
    obtain ⟨hz, hz2, hi1, hj1⟩ := hz
    intro io1 F1 H1 J n1 st1 ij
    have nB : Nxt io F H (io1.take S.length) F1 H1 := (nA.trans n1).cut st.len
    have stB : Sta X.K (io1.take S.length) F1 (S1.take S.length) H1 := st1.cut _
    have hH1p : H1 p = some (DNo (fun k => k.hash X.w) p []) := n1.out p _ upd_same hps
    obtain ⟨p1a, p1b, _⟩ := kept_out (K := X.K) n1 upd_same hps hFp
    let Inv' : Nat → St → Hp → Prop := fun m σ' H' => ∃ ρ' S' io' F' ks xs es, Nxt io F H io' F' H' ∧ Same F1 F' ∧ Sta X.K io' F' S' H' ∧ Mir.Env X.K io' F' ρ' σ' ∧ σ'[i]? = some (some (.ref p)) ∧ σ'.length = σ.length ∧ S'.length = S.length ∧
      (∀ k : Nat, io'[k]? ≠ some (some p)) ∧ F' p = none ∧ H' p = some (DNo (fun k => k.hash X.w) p es) ∧ es.length ≤ m ∧ nkL ks = some (es.map (·.1)) ∧ RepL X.K F' ks (es.map fun e => .ref e.2.1) ∧ RepL X.K F' xs (es.map (·.2.2)) ∧
      dnGo j S.length key (its.drop m) ρ' S' ks xs = some r
    refine ⟨fun m k σ' H' => k = its.length - m ∧ m ≤ its.length ∧ Inv' m σ' H', ⟨its.length, by simp, Nat.zero_le _, ρ.set i none, S1.take S.length, io1.take S.length, F1, [], [], [], nB, Same.refl _, stB, ?_, ?_, ?_, ?_, take_out _ p1a, p1b, hH1p, Nat.le_refl _, rfl, .nil, .nil, h0⟩, ?_⟩
    · exact enA.nxt nB
    · rw [List.getElem?_set_self (by omega)]
    · rw [List.length_set]
    · rw [List.length_take]; omega
    rintro m k σ' H' ⟨rfl, hle, ρ', S', io', F', ks, xs, es, nx, hF, st', en', hσ, hσl', hl, hp1, hp2, hp3, hes, k1, k2, k3, hh⟩
    have hio' : io'.length = S.length := by rw [st'.len, hl]
    obtain ⟨go, stop⟩ := ij io' F' S' H' m hF st'
    cases hx0 : its[m]? with
    | none =>
      have hd : its.drop m = [] := List.drop_eq_nil_of_le (List.getElem?_eq_none_iff.mp hx0)
      rw [hd] at hh
      have hh : some (ks, xs, S') = some r := hh
      cases hh
      exact .inl ⟨stop hx0, _, hσ, hq io' F' H' p es nx st' hp0 hp1 hp2 hp3 k1 k2 k3⟩
    | some z =>
      have hlt : m < its.length := (List.getElem?_eq_some_iff.mp hx0).1
      have hd : its.drop m = z :: its.drop (m + 1) := by
        rw [List.drop_eq_getElem_cons hlt]
        congr 1
        exact (List.getElem?_eq_some_iff.mp hx0).2
      rw [hd] at hh
      obtain ⟨g1, g2⟩ := go z hx0
      refine .inr ⟨g1, Inv' (m + 1), fun σ2 H2 hn => ⟨its.length - (m + 1), by omega, rfl, hlt, hn⟩, fun v H'' hy => ?_⟩
      obtain ⟨F'', n2, s2, rv⟩ := g2 v H'' hy
      have en2 : Mir.Env X.K io' F'' (ρ'.set j (some (.p z))) (σ'.set j (some v)) := (en'.nxt n2).set (d := .p z) rv j
      have hσ2 : (σ'.set j (some v))[i]? = some (some (.ref p)) := by rw [List.getElem?_set_ne (Ne.symm hij)]; exact hσ
      obtain ⟨c1, c2, c3⟩ := kept_out (K := X.K) n2 hp3 hp1 hp2
      refine ⟨.ref p, hσ2, p, es, rfl, ⟨F'', ks, s2.sub, c3, k1, RepL.mono n2.fr k2⟩, ?_⟩
      unfold dnGo at hh
      refine hk (ρ'.set j (some (.p z))) S' io' F'' _ H'' _ s2 en2 ?_
      cases q1 : key (ρ'.set j (some (.p z))) S' with
      | bad => rw [q1] at hh; cases hh
      | exc _ _ _ => rw [q1] at hh; cases hh
      | ok dk Sk =>
      rw [q1] at hh
      cases dk with
      | c _ => cases hh
      | p kp =>
      dsimp only at hh
      cases q2 : nkD kp with
      | none => rw [q2] at hh; cases hh
      | some k =>
      rw [q2] at hh
      dsimp only at hh
      by_cases q3 : S.length ≤ Sk.length
      · rw [if_pos q3] at hh
        intro io3 F3 H3 vk n3 s3 rk
        obtain ⟨t1, t2, t3⟩ := nkD_ok q2
        have rk : Rep X.K F3 kp vk := rk
        obtain ⟨bk, rfl⟩ := isTup_ref t1 rk
        obtain ⟨d1, d2, d3⟩ := kept_out (K := X.K) n3 c3 c1 c2
        have n23 := n2.trans n3
        have nx3 : Nxt io F H (io3.take S.length) F3 H3 := nx.trans (n23.cut hio')
        have s5 : Sta X.K (io3.take S.length) F3 (Sk.take S.length) H3 := s3.cut _
        have hσj : (σ'.set j (some v))[j]? = some (some v) := by rw [List.getElem?_set_self (by omega)]
        have rz3 : Rep X.K F3 z v := Rep.mono n3.fr rv
        have en5 : Mir.Env X.K (io3.take S.length) F3 (ρ'.set j (some (.p z))) (σ'.set j (some v)) := en2.nxt (n3.cut hio')
        have k2' := RepL.mono n23.fr k2
        have k3' := RepL.mono n23.fr k3
        refine ⟨v, hσj, es, bk, k, ⟨F3, ks, s3.sub, d3, k1, k2'⟩, rfl, ⟨F3, kp, s3.sub, t2, rk, t3⟩, sz5l (by omega), fun e he => ?_, fun he => ?_⟩
        · rcases nAt_ok k k1 k3' with ⟨_, w2⟩ | ⟨y0, x', w1, w2, w3⟩
          · rw [he] at w2; cases w2
          · have hpt : dnPut k kp z ks xs = (ks, xs) := by unfold dnPut; rw [w1]
            rw [hpt] at hh
            exact ⟨_, _, _, F3, ks, xs, es, nx3, hF.trans n23.fr, s5, en5, hσ2, by rw [List.length_set]; exact hσl', by rw [List.length_take]; omega, take_out _ d1, d2, d3, by omega, k1, k2', k3', hh⟩
        · rcases nAt_ok k k1 k3' with ⟨w1, _⟩ | ⟨y0, x', w1, w2, w3⟩
          · have hpt : dnPut k kp z ks xs = (ks ++ [kp], xs ++ [z]) := by unfold dnPut; rw [w1]
            rw [hpt] at hh
            exact ⟨_, _, _, F3, ks ++ [kp], xs ++ [z], es ++ [(k, bk, v)], nx3.put hp0, hF.trans n23.fr, s5.side (take_out _ d1) d2, en5, hσ2, by rw [List.length_set]; exact hσl', by rw [List.length_take]; omega, take_out _ d1, d2, upd_same, by rw [List.length_append]; exact Nat.succ_le_succ hes, by rw [List.map_append]; exact nkL_app k1 t2, by rw [List.map_append]; exact k2'.append (.cons rk .nil), by rw [List.map_append]; exact k3'.append (.cons rz3 .nil), hh⟩
          · rw [he] at w2; cases w2
      · rw [if_neg q3] at hh; cases hh
  · rw [if_neg hz] at h0; cases h0
end
theorem mkD_len {np nl x y : Nat} {it : MI} {key : ME} {ds : List Vl} {S : Sto} {r : List P × List P × Sto} (h : mkD np nl x y it key ds S = some r) : ds.length = np ∧ dnRun x y it key (ds.map some ++ List.replicate nl none) S = some r := by
  unfold mkD at h
  split at h
  · exact ⟨by assumption, h⟩
  · cases h
section
variable {P : Program} {w : World} {K : PySem.W.Frag} {mg : Str → Option Value} {base : Heap} {x qual : Str} {params : Arguments} {body : List Stmt} {scope : Scope} {dvs : List V} {kws : List (Str × V)} {f : Addr} {fd : FuncData} {N ps : List Str} {k nl i j : Nat} {it : MI} {key : ME}
theorem fn_okD (F : FunD K x qual params body scope dvs kws f fd) (sc : FnScope N ps scope) (hN : N.length = ps.length + nl)
    (hb : ∀ (cdv : Value) (A : Around) (outer : List PySem.Env) (s : Shared) (H : Hp) (E : XK), RoomG k (A.deeper (PyProof.Rows.envOfC qual scope s.heap.objs.size f cdv)) → ODn (cxOf (L2.CX P w) P w K mg base N qual scope f cdv A outer s H E) (fun c d _ H' => E c d H') body i j it key) :
    FnG P w K mg base (k + 1) f fd ps (spD K w (mkD ps.length nl i j it key)) := by
  refine fnG_of F sc (fun vs H Q E h => ?_) fun cdv A outer s H vs Q E hr h => ?_
  · obtain ⟨io, F, S, ds, r, _, rv, e, _⟩ := h
    rw [rv.length]
    exact (mkD_len e).1
  · obtain ⟨t, pt, ht⟩ := hb cdv A outer s H E hr
    refine ⟨t, pt, ?_⟩
    obtain ⟨io, FF, S, ds, r, st, rv, e, hq⟩ := h
    obtain ⟨hd, e⟩ := mkD_len e
    have hl : vs.length = ps.length := by rw [rv.length]; exact hd
    have e0 := Env.start (K := K) (io := io) (F := FF) nl rv
    have hst : L2.start N vs = vs.map some ++ List.replicate nl none := by
      unfold L2.start
      rw [hN, hl]
      congr 2
      omega
    rw [hst]
    exact ht _ S io FF _ H _ r st e0 e hq
end
structure GD (P : Program) (w : World) (K : PySem.W.Frag) (mg : Str → Option Value) (base : Heap) (x : Str) (params : Arguments) (ps : List Str) (k : Nat) (m : MD) : Prop where
  gl : mg x = some (.ref (He.ga K x))
  kp : PySem.W.keepIn K (.ref (He.ga K x)) = true
  fn : ∃ fd, FnG P w K mg base k (He.ga K x) fd ps (spD K w m) ∧ Binds K fd ps []
def eDVals (m : MD) (a : MA) : ME := fun ρ S => (a ρ S).bind fun ds S1 => match m ds S1 with
  | some (_, xs, S2) => .ok (.p (.lst xs)) S2
  | none => .bad
section
variable {X : Cx} {W : WX} {e ke : Expr} {es : List Expr} {mas : MA} {key : ME} {x : Str} {p pos pos2 apos mpos p0 : Pos} {params : Arguments} {ps : List Str} {k j : Nat} {m : MD}
theorem pe_dcall {t : TA} (G : GD X.prog X.w X.K X.mg X.base x params ps k m) (hr : RoomG j X.A) (hk : k ≤ j) (tk : Takes X W) (q : PA X (e :: es) t) (hg : Gl X x)
    (hdb : (x == ("__debug__" : Str)) = false) (he : starEach (e :: es) X.env = (false, eval e X.env) :: starEach es X.env) (hpl : (backTo pos (starEach es X.env)).any (·.1) = false) :
    PE X (.Call (.Name x p) (e :: es) [] pos) (fun σ H Q => t σ H fun vs H1 => spD X.K X.w m vs H1 Q (WE W σ)) := by
  obtain ⟨fd, F, hb⟩ := G.fn
  refine ⟨fun pins s σ H Q I h => ?_⟩
  refine wpAny_Call_Name_kw (ld_glob I hg G.gl ?_ hdb)
  refine PySem.W.callWith_K (h₀ := X.base) I.ok.mod.kin G.kp (thn (q.run pos pins s σ H _ I h) fun us s1 ⟨vs, H1, I1, r, qq⟩ => ⟨I1.kIn, ?_⟩) he hpl
  exact run_fnG (E := WE W) F (hr.mono hk) hb (passAt tk σ) I1 r qq
theorem oe_dVals (G : GD X.prog X.w X.K X.mg X.base x params ps k m) (hr : RoomG j X.A) (hk : k ≤ j) (tk : Takes X W) (hc : X.calm = true) (hm : X.mg "list" = none) (ha : OA X W (e :: es) mas) (hg : Gl X x := by rfl) (hgl : Gl X "list" := by rfl)
    (hdb : (x == ("__debug__" : Str)) = false := by decide) (he : starEach (e :: es) X.env = (false, eval e X.env) :: starEach es X.env := by rfl) (hpl : (backTo pos (starEach es X.env)).any (·.1) = false := by rfl)
    (hbase : attributeBase (.Call (.Name x p) (e :: es) [] pos) "values" X.env (eval (.Call (.Name x p) (e :: es) [] pos) X.env) = eval (.Call (.Name x p) (e :: es) [] pos) X.env := by rfl) (hline : (apos.endLine == mpos.line) = true := by rfl)
    (hse : starEach [Expr.Call (.Attribute (.Call (.Name x p) (e :: es) [] pos) "values" apos) [] [] mpos] X.env = [(false, eval (Expr.Call (.Attribute (.Call (.Name x p) (e :: es) [] pos) "values" apos) [] [] mpos) X.env)] := by rfl) :
    OE X W (.Call (.Name "list" p0) [.Call (.Attribute (.Call (.Name x p) (e :: es) [] pos) "values" apos) [] [] mpos] [] pos2) (eDVals m mas) := by
  obtain ⟨t, q, ha⟩ := ha
  refine ⟨_, pe_listValsN hc hgl hm (pe_dcall G hr hk tk q hg hdb he hpl) hbase hline hse, fun ρ S io F σ H Q st en h => ?_⟩
  refine ha ρ S io F σ H _ st en (RG.bind h fun ds S1 io1 F1 H1 vs e1 n1 s1 r1 h1 => ?_)
  cases q1 : m ds S1 with
  | none => rw [q1] at h1; exact h1.elim
  | some r =>
  obtain ⟨ks, xs, S2⟩ := r
  rw [q1] at h1
  dsimp only at h1
  refine ⟨io1, F1, S1, ds, _, s1, r1, q1, fun io2 F2 H2 a es2 n2 s2 ha0 ho1 ho2 ho3 k1 k2 k3 => ?_⟩
  refine ⟨a, es2, rfl, ⟨F2, ks, s2.sub, ho3, k1, k2⟩, fun q hq => ?_⟩
  obtain ⟨s3, n3⟩ := s2.froze (o := .lst (es2.map (·.2.2))) hq
  exact h1 io2 _ _ (.ref q) (n2.trans n3) s3 ⟨q, _, rfl, upd_same, RepL.mono n3.fr k3⟩
end
end Mir

namespace Sx
open PySem PySem.W PySem.Calls PyProof.Rows PySem.SeqAt
section
variable {A : Around} {s : Shared}
theorem call_tuple_lt {prog : Program} {w : World} {E : Value → Shared → Prop} {Q : Value → Shared → Prop} {l b : Addr} {items items2 : Array Value} {e r : Nat → Bool} (hl : s.heap.IsTuple l items) (hb : s.heap.IsTuple b items2)
    (he : ∀ j (h1 : j < items.size) (h2 : j < items2.size), EqAt A.in1 s items[j] items2[j] (e j)) (hr : ∀ j (h1 : j < items.size) (h2 : j < items2.size), e j = false → RcLt A.in1 s items[j] items2[j] (r j))
    (h : Q (.bool (firstLt e r (decide (items.size < items2.size)) (List.range (min items.size items2.size)))) s) : wpAny (model prog w) A (call (.builtin "tuple.__lt__") [.ref l, .ref b]) Q E s := by
  obtain ⟨⟨cls, dd, data, sl⟩, ho, hc, n, hd⟩ := id hl
  obtain ⟨⟨cls2, dd2, data2, sl2⟩, ho2, hc2, n2, hd2⟩ := id hb
  simp only at hc hd hc2 hd2
  subst hc hd hc2 hd2
  exact call_meets F.slot_tuple_lt ⟨_, ho, rfl⟩ F.entry_tuple_lt (F.args_tuple_lt_2 _ _) (tuple_ltAt l b items items2 n n2 dd dd2 sl sl2 e r) ⟨ho, ho2, he, hr, h⟩
end
section
variable {prog : Program} {w : World} {A : Around} {E : Value → Shared → Prop} {s : Shared}
theorem oneLt_tup {f : Bool} {xs ys : List PyData} {a b : Value} {as bs : List Addr} {Q : Bool → Shared → Prop} (ra : Reads s.heap a (.tuple xs) as) (rb : Reads s.heap b (.tuple ys) bs) (h : PySem.W.alike (.tuple xs) (.tuple ys) = true)
    (hu : A.units + min (PyData.tuple xs).depth (PyData.tuple ys).depth < cLine) (hq : Q (dataLt (.tuple xs) (.tuple ys)) s) : wpAny (model prog w) A (oneLt' f a b) Q E s := by
  cases f with
  | false => exact oneLt_alike (fun z => nomatch z) ra rb h (fun z => nomatch z) hu hq
  | true =>
    have hal : alikeAll xs ys = true := by simpa [PySem.W.alike] using h
    cases ra with
    | @tuple l o vs n _ as₁ h1 h2 h3 h4 =>
      cases rb with
      | @tuple l' o' vs' n' _ bs₁ k1 k2 k3 k4 =>
        have n1 : vs.size = xs.length := by simpa using SeqAt.ReadsAll.length _ _ _ h4
        have n2 : vs'.size = ys.length := by simpa using SeqAt.ReadsAll.length _ _ _ k4
        rw [dataLt_tuple, ← firstLt_toks xs ys hal, ← n1, ← n2] at hq
        rw [oneLt'_eq]
        simp only [if_true]
        refine wpAny_bind (wpAny_cRoomFor (room_here hu) ?_)
        refine wpAny_bind (wpAny_callSpecialIfBound?_slot (T := "tuple") ⟨_, h1, h2⟩ F.slot_tuple_lt (call_tuple_lt (e := pairEq xs ys) (r := fun j => dataLt (xs.getD j .none) (ys.getD j .none)) ⟨_, h1, h2, _, h3⟩ ⟨_, k1, k2, _, k3⟩ (fun j j1 j2 => ?_) (fun j j1 j2 hj => ?_) ?_))
        · have := eqAt_alikeAll xs ys A.in1 s vs.toList vs'.toList _ _ h4 k4 hal (room_in hu) j (by simpa using j1) (by simpa using j2)
          simpa using this
        · have := rcLt_alikeAll xs ys A.in1 s vs.toList vs'.toList _ _ h4 k4 hal (room_in hu) j (by simpa using j1) (by simpa using j2) hj
          simpa using this
        · exact wpAny_truthy_bool hq
end
def Tups (h : Heap) : List Value → List (Option Value) → Prop
  | [], [] => True
  | v :: vs, f :: fs => (∃ a o xs n, v = .ref a ∧ h.get? a = some o ∧ o.cls = .type "tuple" ∧ o.data = .seq xs n ∧ xs[0]? = f) ∧ Tups h vs fs
  | _, _ => False
section
variable {M : Model} {A : Around} {E : Value → Shared → Prop} {s : Shared}
theorem firsts : ∀ (vs : List Value) (fs : List (Option Value)) {Q : List (Option Value) → Shared → Prop}, Tups s.heap vs fs → Q fs s → wpAny M A (vs.mapM firstOfTuple') Q E s
  | [], [], _, _, h => by rw [List.mapM_nil]; exact wpAny_pure h
  | [], _ :: _, _, t, _ => t.elim
  | _ :: _, [], _, t, _ => t.elim
  | v :: vs, f :: fs, Q, t, h => by
    obtain ⟨⟨a, o, xs, n, rfl, ho, hc, hd, hf⟩, t⟩ := t
    rw [List.mapM_cons]
    refine wpAny_bind ?_
    rw [kas_first_eq]
    refine wpAny_bind (Looks.here (show Looks M s.heap (typeOf (.ref a)) o.cls from (Looks.ld ho).andThen .now) ?_)
    rw [hc, if_neg (by first | decide | simp)]
    refine wpAny_bind (listItems_at ho hd (wpAny_pure ?_))
    rw [hf]
    exact wpAny_bind (firsts vs fs (Q := fun bs s' => wpAny M A (pure (f :: bs)) Q E s') t (wpAny_pure h))
theorem tups_looks : ∀ {vs : List Value} {fs : List (Option Value)}, Tups s.heap vs fs → ∀ v ∈ vs, Looks M s.heap (typeOf v) (Value.type "tuple")
  | [], [], _, _, hv => absurd hv List.not_mem_nil
  | [], _ :: _, t, _, _ => t.elim
  | _ :: _, [], t, _, _ => t.elim
  | v :: vs, f :: fs, t, u, hu => by
    obtain ⟨⟨a, o, xs, n, rfl, ho, hc, hd, hf⟩, t⟩ := t
    rcases List.mem_cons.mp hu with z | z
    · subst z
      exact hc ▸ (show Looks M s.heap (typeOf (.ref a)) o.cls from (Looks.ld ho).andThen .now)
    · exact tups_looks t u z
theorem kind_of {vs : List Value} {fs : List (Option Value)} {Q : SortKind → Shared → Prop} (t : Tups s.heap vs fs) (h2 : vs ≠ []) (hn : none ∈ fs) (h : Q (if (fs.toArray[0]?.bind id).isSome then general' else oneType') s) : wpAny M A (keyKind' vs.toArray) Q E s := by
  rw [kat_kind_eq, List.mapM_toArray, map_eq_pure_bind]
  refine wpAny_bind (wpAny_bind (firsts vs _ t (wpAny_pure ?_)))
  have hall : ¬ ((fs.toArray.all fun x => x.isSome) = true) := by
    intro z
    simp only [List.all_toArray, List.all_eq_true] at z
    have := z none hn
    cases this
  rw [if_neg hall]
  by_cases hb : (fs.toArray[0]?.bind id).isSome = true
  · rw [if_pos hb] at h ⊢
    exact wpAny_pure h
  · rw [if_neg hb] at h ⊢
    rw [oneTypeOnly'_eq, List.mapM_toArray, map_eq_pure_bind]
    refine wpAny_bind (wpAny_bind (wpAny_bind (kas_mapM (r := Value.type "tuple") _ (fun v hv Q' hq => (tups_looks t v hv).here hq) (wpAny_pure ?_))))
    obtain ⟨v₁, rest, rfl⟩ : ∃ v₁ rest, vs = v₁ :: rest := by
      cases vs with
      | nil => exact absurd rfl h2
      | cons v r => exact ⟨v, r, rfl⟩
    have hall : ((List.map (fun _ => Value.type "tuple") (v₁ :: rest)).toArray.all fun x => x == Value.type "tuple") = true := by
      simp only [List.all_toArray, List.all_map, List.all_eq_true]
      intro _ _
      exact beq_self_eq_true _
    have h0 : (List.map (fun _ => Value.type "tuple") (v₁ :: rest)).toArray[0]? = some (Value.type "tuple") := by simp
    rw [h0]
    simp only [hall, if_true]
    exact wpAny_pure (wpAny_pure h)
end
theorem tups_of {h : Heap} : ∀ {vs : List Value} {ds : List PyData}, EachIs (fun v d => ∃ as, Reads h v d as) vs ds → (∀ d ∈ ds, ∃ xs, d = .tuple xs) → ∃ fs, Tups h vs fs ∧ fs.length = vs.length ∧ (none ∈ fs ↔ PyData.tuple [] ∈ ds)
  | _, _, .nil, _ => ⟨[], trivial, rfl, by simp⟩
  | _, _, .cons (b := d) ⟨as, r⟩ t, ht => by
    obtain ⟨fs, h1, h2, h3⟩ := tups_of t fun d hd => ht d (List.mem_cons_of_mem _ hd)
    obtain ⟨xs, rfl⟩ := ht d (List.mem_cons_self ..)
    cases r with
    | @tuple a o vs n _ _ ho hc hd hr =>
      refine ⟨vs[0]? :: fs, ⟨⟨a, o, vs, n, rfl, ho, hc, hd, rfl⟩, h1⟩, by rw [List.length_cons, List.length_cons, h2], ?_⟩
      have e : vs[0]? = none ↔ xs = [] := by
        have hl := SeqAt.ReadsAll.length _ _ _ hr
        rw [Array.getElem?_eq_none_iff, ← Array.length_toList, hl]
        constructor
        · intro z; exact List.length_eq_zero_iff.mp (by omega)
        · intro z; rw [z]; exact Nat.le_refl _
      rw [List.mem_cons, List.mem_cons, h3]
      constructor
      · rintro (z | z)
        · exact .inl (by rw [e.mp z.symm])
        · exact .inr z
      · rintro (z | z)
        · injection z with z
          exact .inl (e.mpr z.symm).symm
        · exact .inr z
section
variable {prog : Program} {w : World} {A : Around} {s : Shared}
theorem sorts_tups {vs : List Value} {ds : List PyData} (e : EachIs (fun v d => ∃ as, Reads s.heap v d as) vs ds) (hal : AllAlike ds) (ht : ∀ d ∈ ds, ∃ xs, d = .tuple xs) (hu : ∀ d, d ∈ ds → A.units + d.depth < cLine) : SortsAt prog w A s (dataKind s.heap ds) vs := by
  by_cases h0 : PyData.tuple [] ∈ ds
  · have room : ∀ {d d' : PyData}, d ∈ ds → A.units + min d.depth d'.depth < cLine := fun {d d'} hd => Nat.lt_of_le_of_lt (Nat.add_le_add_left (Nat.min_le_left _ _) _) (hu d hd)
    obtain ⟨fs, t1, t2, t3⟩ := tups_of e ht
    refine ⟨fun v hv => ?_, (if (fs.toArray[0]?.bind id).isSome then general' else oneType'), ?_, fun h2 E Q hq => ?_⟩
    · obtain ⟨d, hd, as, r⟩ := e.left v hv
      exact ⟨_, dataKind_some hal hd r⟩
    · intro E x y a b Q ha hb hq
      obtain ⟨d, as, hd, ra, rfl⟩ := dataKind_inv ha
      obtain ⟨d', as', hd', rb, rfl⟩ := dataKind_inv hb
      obtain ⟨xs, rfl⟩ := ht d hd
      obtain ⟨ys, rfl⟩ := ht d' hd'
      split
      · exact oneLt_tup (f := false) ra rb (hal _ hd _ hd') (room hd) hq
      · exact oneLt_tup (f := true) ra rb (hal _ hd _ hd') (room hd) hq
    · refine kind_of t1 (fun z => ?_) (t3.mpr h0) hq
      rw [z] at h2
      exact absurd h2 (by simp)
  · refine SortsAt.data e hal (.inl fun d hd => ?_) hu
    obtain ⟨xs, rfl⟩ := ht d hd
    cases xs with
    | nil => exact absurd hd h0
    | cons x r => exact ⟨x, r, rfl⟩
theorem sorted_tups {β : Type} {R : Value → β → Prop} {enc : β → PyData} {vs : List Value} {bs : List β} {E : Value → Shared → Prop} {l : Addr} {Q : Value → Shared → Prop} (hl : s.heap.IsList l vs.toArray) (e : EachIs R vs bs) (er : EachIs (fun v b => ∃ as, Reads s.heap v (enc b) as) vs bs) (hal : AllAlike (bs.map enc)) (hk : ∀ d ∈ bs.map enc, ∃ xs, d = .tuple xs) (hL : bs.length ≤ sizeLine)
    (hu : ∀ b, b ∈ bs → A.units + 2 + (enc b).depth < cLine) (h : ∀ out, out.length = bs.length → EachIs R out (bs.mergeSort (dataLe false enc)) → Q (.ref (s.heap.objs.size + 1)) { s with heap := sortedAll s.heap vs (List.toArray out) }) :
    wpAny (model prog w) A (call (.builtin "sorted") [.ref l]) Q E s := by
  have er' : EachIs (fun v b => ∃ as, Reads (sortingHeap (copyHeap s.heap vs) (s.heap.objs.size + 1) vs) v (enc b) as) vs bs := er.mono fun _ _ ⟨as, r⟩ => ⟨as, PyProof.Rows.Reads.keeps (fun _ _ => sorting_copy_old) r⟩
  exact sorted_vals hl (sorts_tups (s := { s with heap := sortingHeap (copyHeap s.heap vs) (s.heap.objs.size + 1) vs }) (each_map (R := fun v d => ∃ as, Reads (sortingHeap (copyHeap s.heap vs) (s.heap.objs.size + 1) vs) v d as) enc er') hal hk (bound_map hu)) (by rw [e.length]; exact hL)
    (h _ (by rw [sortVals_length false rfl]; exact e.length) (sortVals_data false e er' hal))
end
end Sx
namespace Mir
open PySem L2
def rSortU (K : PySem.W.Frag) : List V → Hp → VK → Prop := fun vs H Q => ∃ (a : Addr) (bs : List (V × PyData)), vs = [.ref a] ∧ SqL K H a (bs.map (·.1)) ∧ (∀ b ∈ bs, Dp K H b.1 b.2) ∧ PySem.W.AllAlike (bs.map (·.2)) ∧ (∀ d ∈ bs.map (·.2), ∃ xs, d = .tuple xs) ∧ (∀ b ∈ bs, b.2.depth ≤ 60) ∧
  ∀ p, H p = none → Q (.ref p) (upd H p (.lst ((bs.mergeSort (PySem.W.dataLe false fun b => b.2)).map (·.1))))
section
variable {X : Cx} {k : Nat}
theorem cr_sortU (hr : RoomG k X.A) : CallR X (.builtin "sorted") (rSortU X.K) := by
  intro pins s σ H vs us Q I r h
  obtain ⟨a, bs, rfl, hs, hd, hal, hk, hdep, q⟩ := h
  obtain ⟨its, rv, hl, hz⟩ := I.list hs
  rw [Vals.ref1 r]
  have e := each_vals rv
  have er : PySem.W.EachIs (fun v (b : V × PyData) => ∃ as, Reads s.heap v b.2 as) its bs := by
    have go : ∀ {bs : List (V × PyData)} {its : List Value}, PySem.W.EachIs (fun v b => RelV b.1 v) its bs → (∀ b ∈ bs, Dp X.K H b.1 b.2) → PySem.W.EachIs (fun v (b : V × PyData) => ∃ as, Reads s.heap v b.2 as) its bs := by
      intro bs its e
      induction e with
      | nil => exact fun _ => .nil
      | cons h t ih => exact fun hd => .cons (Dp.reads I _ _ _ (hd _ (List.mem_cons_self ..)) h) (ih fun b hb => hd b (List.mem_cons_of_mem _ hb))
    exact go e hd
  refine Sx.sorted_tups (R := fun v (b : V × PyData) => RelV b.1 v) (enc := fun b => b.2) hl.isList e er hal hk (by rw [List.length_map] at hz; exact hz) (fun b hb => ?_) fun out h1 h2 => ?_
  · have := hr.r.un
    have := hdep b hb
    omega
  · obtain ⟨ep, he'⟩ := PyProof.Rows.sortedAll_at s.heap its (List.toArray out)
    have hv := vals_each h2
    have hlen : ((bs.mergeSort (PySem.W.dataLe false fun b => b.2)).map (·.1)).length ≤ sizeLine := by
      rw [List.length_map, List.length_mergeSort, ← List.length_map (f := fun b : V × PyData => b.1)]
      exact hz
    exact ⟨.ref _, upd H (s.heap.objs.size + 1) (.lst _), I.laid (t' := s.toks) (fun _ _ => PyProof.Rows.sortedAll_old) (Nat.le_succ _) ⟨hlen, out, ep, hv, he'⟩, rfl, q _ (I.hok.fresh (Nat.le_succ _))⟩
end
def isTU : P → Bool
  | .tup xs => xs.all isStrP
  | _ => false
def pSortedU : List P → Option P
  | [.lst xs] => if xs.all (fun p => p.dat 60 && isTU p) then some (.lst (xs.mergeSort leD)) else none
  | _ => none
theorem isTU_form {p : P} (h : isTU p = true) : ∃ xs, p = .tup xs ∧ xs.all isStrP = true := by
  cases p with
  | tup xs => exact ⟨xs, rfl, h⟩
  | _ => cases h
section
variable {K : PySem.W.Frag}
theorem sort_coreU {io : Io} {F H : Hp} {S : Sto} {a : Addr} {ps : List P} {vs : List V} {Q : VK} (st : Sta K io F S H) (ha : H a = some (.lst vs)) (ra : RepL K F ps vs) (hd : ∀ p ∈ ps, p.dat 60 = true) (hal : PySem.W.AllAlike (ps.map P.toD)) (hk : ∀ d ∈ ps.map P.toD, ∃ xs, d = .tuple xs)
    (k : ∀ F' H' u, Nxt io F H io F' H' → Sta K io F' S H' → Rep K F' (.lst (ps.mergeSort leD)) u → Q u H') : rSortU K [.ref a] H Q := by
  obtain ⟨z1, z2, z3⟩ := repL_zip ra
  have hsnd : ∀ c ∈ vs.zip ps, c.2 ∈ ps := fun c hc => by
    have : c.2 ∈ (vs.zip ps).map (·.2) := List.mem_map.mpr ⟨c, hc, rfl⟩
    rw [z3] at this
    exact this
  have e2 : ((vs.zip ps).map fun c => (c.1, c.2.toD)).map (·.2) = ps.map P.toD := by
    rw [List.map_map]
    show (vs.zip ps).map (P.toD ∘ (·.2)) = _
    rw [← List.map_map, z3]
  refine ⟨a, (vs.zip ps).map fun c => (c.1, c.2.toD), rfl, ?_, ?_, by rw [e2]; exact hal, by rw [e2]; exact hk, ?_, fun p hp => ?_⟩
  · rw [List.map_map]
    show SqL K H a ((vs.zip ps).map (·.1))
    rw [z2]
    exact SqL.of ha
  · intro b hb
    obtain ⟨c, hc, rfl⟩ := List.mem_map.mp hb
    exact Rep.dp (hd _ (hsnd c hc)) ((z1 c hc).mono st.sub)
  · intro b hb
    obtain ⟨c, hc, rfl⟩ := List.mem_map.mp hb
    exact P.dep (hd _ (hsnd c hc))
  · have m1 : ((vs.zip ps).map fun c => (c.1, c.2.toD)).mergeSort (PySem.W.dataLe false fun b => b.2) = ((vs.zip ps).mergeSort fun c d => leD c.2 d.2).map fun c => (c.1, c.2.toD) :=
      (PySem.W.sort_maps (r := fun c d : V × P => leD c.2 d.2) (s := PySem.W.dataLe false fun b : V × PyData => b.2) (fun c : V × P => (c.1, c.2.toD)) fun _ _ _ _ => rfl).symm
    have m2 : ps.mergeSort leD = ((vs.zip ps).mergeSort fun c d => leD c.2 d.2).map (·.2) := by
      have := PySem.W.sort_maps (r := fun c d : V × P => leD c.2 d.2) (s := leD) (l := vs.zip ps) (fun c : V × P => c.2) fun _ _ _ _ => rfl
      rw [z3] at this
      exact this.symm
    rw [m1, List.map_map]
    generalize hms : ((vs.zip ps).mergeSort fun c d => leD c.2 d.2) = ms at *
    have hmem : ∀ c ∈ ms, Rep K F c.2 c.1 := fun c hc => z1 c (by rw [← hms] at hc; exact (List.mergeSort_perm _ _).mem_iff.mp hc)
    obtain ⟨s3, n3⟩ := st.froze (o := .lst (ms.map (·.1))) hp
    refine k _ _ _ n3 s3 ?_
    rw [m2]
    exact ⟨p, _, rfl, upd_same, RepL.mono n3.fr (repL_all ms hmem)⟩
theorem ok_sortedU : CallOk K (rSortU K) pSortedU := by
  intro io F S H xs vs z Q st rx e k
  match xs, e with
  | [.lst ps], e =>
    obtain ⟨v, rfl, r1⟩ := rx.one
    obtain ⟨a, vs, rfl, ha, ra⟩ := r1
    have e : (if ps.all (fun p => p.dat 60 && isTU p) then some (P.lst (ps.mergeSort leD)) else none) = some z := e
    split at e
    · rename_i hc
      cases e
      have hp : ∀ p ∈ ps, p.dat 60 = true ∧ isTU p = true := fun p hp => Bool.and_eq_true_iff.mp (List.all_eq_true.mp hc p hp)
      refine sort_coreU st ha ra (fun p h => (hp p h).1) (fun d hd d' hd' => ?_) (fun d hd => ?_) k
      · obtain ⟨p, h1, rfl⟩ := List.mem_map.mp hd
        obtain ⟨p', h2, rfl⟩ := List.mem_map.mp hd'
        obtain ⟨xs, rfl, a1⟩ := isTU_form (hp p h1).2
        obtain ⟨ys, rfl, a2⟩ := isTU_form (hp p' h2).2
        have := alike_strs a1 a2
        show PySem.W.alike (.tuple (toDL xs)) (.tuple (toDL ys)) = true
        rw [PySem.W.alike]
        exact this
      · obtain ⟨p, h1, rfl⟩ := List.mem_map.mp hd
        obtain ⟨xs, rfl, a1⟩ := isTU_form (hp p h1).2
        exact ⟨toDL xs, rfl⟩
    · cases e
end
section
variable {X : Cx} {W : WX} {a : Expr} {ma : ME} {pos p : Pos} {k : Nat}
theorem oe_sortedU (hr : RoomG k X.A) (hm : X.mg "sorted" = none) (ha : OE X W a ma) (hg : Gl X "sorted" := by rfl) (hs : starEach [a] X.env = (false, eval a X.env) :: starEach [] X.env := by rfl) : OE X W (.Call (.Name "sorted" p) [a] [] pos) (eCall pSortedU (aCons ma aNil)) := oe_callB (cr_sortU hr) ok_sortedU hm (by decide +kernel) (oa_cons ha oa_nil hs) hg (by decide) (by decide) hs rfl
end
end Mir

namespace Dx
open PySem PySem.Spec PyProof.Rows L2
section
variable {X : Cx}
def rNotInU (K : PySem.W.Frag) : R2 := fun x y H Q => ∃ d ds, Dp K H x d ∧ Dp K H y (.tuple ds) ∧ SeqAt.shaped d = true ∧ SeqAt.shaped (.tuple ds) = true ∧ Q (.bl (!ds.any fun z => PyData.eqv z d)) H
theorem op_notInU (hu : X.A.units + 65 < cLine) : OpR X (compareOp .NotIn) (rNotInU X.K) := by
  intro pins s σ H x y v u Q I rx ry h
  obtain ⟨d, ds, hd, he, sd, se, q⟩ := h
  obtain ⟨as, r1⟩ := Dp.reads I d x v hd rx
  obtain ⟨bs, r2⟩ := Dp.reads I (.tuple ds) y u he ry
  exact SeqAt.notIn_tuple_reads r2 r1 (SeqAt.canLay_of_shaped se) (SeqAt.canLay_of_shaped sd) (room_in_shaped sd hu) ⟨.bl _, H, I, rfl, q⟩
end
end Dx
namespace Mir
open PySem L2
def pNotInU (y z : P) : Option P := match z with
  | .tup xs => if y.dat 60 && (P.tup xs).dat 60 then some (.bl (!inP y xs)) else none
  | _ => none
theorem ok_notInU {K : PySem.W.Frag} : BinOk K (Dx.rNotInU K) pNotInU := by
  intro io F S H x y v w z Q st rx ry e k
  unfold pNotInU at e
  split at e
  · rename_i xs
    split at e
    · rename_i hd
      rw [Bool.and_eq_true] at hd
      cases e
      refine ⟨x.toD, toDL xs, Rep.dp hd.1 (rx.now st.sub), Rep.dp (x := .tup xs) hd.2 (ry.now st.sub), P.shp (by decide) hd.1, P.shp (x := .tup xs) (by decide) hd.2, ?_⟩
      rw [any_toD (m := 59) hd.1 hd.2]
      exact k F H _ Nxt.refl st rfl
    · cases e
  · cases e
def pNotIn3 (x y : P) : Option P := match pNotIn2 x y with
  | some z => some z
  | none => pNotInU x y
section
variable {X : Cx} {W : WX} {a b : Expr} {ma mb : ME} {pos : Pos} {k : Nat}
theorem ot_notIn3 (hr : Room k X.A) (ha : OE X W a ma) (hb : OE X W b mb) (hm : behindInMarks .NotIn b = false := by rfl) : OT X W (.Compare a [.NotIn] [b] pos) (tVal (eBin pNotIn3 ma mb)) := ot_cmp (OpR.or (OpR.or (OpR.or op_notIn_seq op_notin_str) (op_notInD (room65 hr))) (Dx.op_notInU (room65 hr))) (BinOk.or (BinOk.or ok_notIn ok_notInD) ok_notInU) ha hb hm
end
end Mir

namespace Law
open PySem L2 Mir
def isiCs : List Str := ["Space"]
def t_LAWS : DTab := [([97, 108, 108], .tup []), ([109, 101, 101, 116, 105, 110, 103], .tup [(.rwp [99, 105, 99] [105, 99]), (.rwp [105, 99, 105] [99, 105])]), ([112, 105, 110, 110, 101, 100], .tup [(.rwp [99, 105, 99] [99, 105]), (.rwp [105, 99, 105] [105, 99])]), ([98, 111, 116, 104], .tup [(.rwp [99, 105, 99] [105, 99]), (.rwp [105, 99, 105] [105, 99]), (.rwp [99, 105] [105, 99])]), ([112, 97, 114, 116, 101, 100], .tup [(.rwp [105, 99] [99]), (.rwp [99, 105] [105])]), ([112, 108, 97, 105, 110], .tup [(.rwp [99] []), (.rwp [105] [])])]
def t_TURNED : DTab := [([99], (.str [105])), ([105], (.str [99]))]

def b__law_ladle : MS := (sSeq (sIf (tVal (eBin (pIB fun i j => decide (j < i)) (eItem (eVar 0) (eC (.int 0))) (eC (.int 0)))) (sSeq (sAsg (eCall pDivmod (aCons (eItem (eVar 0) (eC (.int 0))) (aCons (eVar 1) aNil))) (gTp 2 (gCn (gSubM (eVar 0) (eC (.int 0))) (gCn (gNm 3) gNl)))) (sRet (eVar 3))) sPass) (sSeq (sAsg (eBin pAdd (eItem (eVar 0) (eC (.int 2))) (eC (.int 1))) (gSubM (eVar 0) (eC (.int 2)))) (sSeq (sAsg (eBin (pIC bMod fun i j => i % j) (eCall pInt (aCons (eBin pAdd (eItem (eVar 0) (eC (.int 1))) (eBin pMul (eC (.int 54001)) (eItem (eVar 0) (eC (.int 2))))) aNil)) (eC (.int 2147483323))) (gNm 2)) (sSeq (sAsg (eBin (pIC bMod fun i j => i % j) (eCall pInt (aCons (eBin pAdd (eBin pAdd (eBin pMul (eVar 2) (eBin pAdd (eBin (pIC bMod fun i j => i % j) (eCall pInt (aCons (eVar 2) aNil)) (eC (.int 25013))) (eC (.int 57037)))) (eBin pMul (eC (.int 41)) (eItem (eVar 0) (eC (.int 2))))) (eC (.int 7))) aNil)) (eC (.int 2147483323))) (gSubM (eVar 0) (eC (.int 1)))) (sRet (eBin (pIC bMod fun i j => i % j) (eBin (pIC bDiv fun i j => i / j) (eCall pInt (aCons (eItem (eVar 0) (eC (.int 1))) aNil)) (eC (.int 193))) (eVar 1)))))))
def m__law_ladle : MF := mkF 2 2 b__law_ladle

def b__law_drawn_names : MS := (sSeq (sPar 3 4 (aCons (eLstC (aCons (eC (.str [97])) (aCons (eC (.str [98])) (aCons (eC (.str [120])) (aCons (eC (.str [99, 57])) (aCons (eC (.str [97, 98, 99, 100, 101, 102, 103, 104])) (aCons (eC (.str [110])) (aCons (eC (.str [122, 122])) (aCons (eC (.str [112, 48])) (aCons (eC (.str [105])) (aCons (eC (.str [97, 108, 108])) (aCons (eC (.str [109, 49])) aNil)))))))))))) (aCons (eLstC aNil) aNil))) (sSeq (sFor (itRange1 (eVar 1)) (gNm 2) (sExpr (eMut isL fApp (eVar 4) (aCons (eMut isL fPopAt (eVar 3) (aCons (eFn m__law_ladle (aCons (eVar 0) (aCons (eCall pLen (aCons (eVar 3) aNil)) aNil))) aNil)) aNil)))) (sRet (eVar 4))))
def m__law_drawn_names : MF := mkF 2 3 b__law_drawn_names

def b__law_pick : MS := (sRet (eItem (eVar 1) (eFn m__law_ladle (aCons (eVar 0) (aCons (eCall pLen (aCons (eVar 1) aNil)) aNil)))))
def m__law_pick : MF := mkF 2 0 b__law_pick

def b__law_drawn_near : MS := (sSeq (sParG 2 (aCons (eLcV (itRange1 (eVar 1)) [2] (gNm 2) tsYes (eLstC (aCons (eVar 2) aNil))) (aCons (eFn m__law_pick (aCons (eVar 0) (aCons (eLst (aCons (eC (.int 3)) (aCons (eC (.int 4)) (aCons (eC (.int 7)) aNil)))) aNil))) aNil)) (gCn (gNm 4) (gCn (gNm 5) gNl))) (sSeq (sFor (itRange1 (eVar 1)) (gNm 2) (sFor (itRange1 (eVar 1)) (gNm 6) (sIf (tAndM (tVal (eBin pNe (eVar 6) (eVar 2))) (tVal (eBin pEq (eFn m__law_ladle (aCons (eVar 0) (aCons (eVar 5) aNil))) (eC (.int 0))))) (sExpr (eMut isL fApp (eItem (eVar 4) (eVar 2)) (aCons (eVar 6) aNil))) sPass))) (sSeq (sFor (itRange1 (eVar 1)) (gNm 3) (sFor (itRange1 (eVar 1)) (gNm 2) (sFor (itOf (eCall pList (aCons (eItem (eVar 4) (eVar 2)) aNil))) (gNm 6) (sAsg (eBin pAdd (eItem (eVar 4) (eVar 2)) (eLc (itOf (eItem (eVar 4) (eVar 6))) [8] (gNm 8) (tVal (eBin pNotIn2 (eVar 8) (eItem (eVar 4) (eVar 2)))) (eVar 8))) (gSubM (eVar 4) (eVar 2)))))) (sRet (eLc (itOf (eVar 4)) [7] (gNm 7) tsYes (eCall pSorted (aCons (eVar 7) aNil)))))))
def m__law_drawn_near : MF := mkF 2 7 b__law_drawn_near

def b_is_name : MS := (sSeq (sAsg (eVar 0) (gNm 1)) (sSeq (sIf (tOrM (tNotM (tVal (eIsi isiCs (eVar 0) (eC (.ty "str"))))) (tOrM (tNotM (tVal (eChn bLe bLe (eC (.int 1)) (eCall pLen (aCons (eVar 0) aNil)) (eC (.int 8))))) (tVal (eBin pNotIn2 (eItem (eVar 0) (eC (.int 0))) (eC (.str [97, 98, 99, 100, 101, 102, 103, 104, 105, 106, 107, 108, 109, 110, 111, 112, 113, 114, 115, 116, 117, 118, 119, 120, 121, 122])))))) (sRet (eC (.bl false))) sPass) (sRet (eCall pAll (aCons (eLc (itOf (eVar 1)) [2] (gNm 2) tsYes (eOrM (eBin pIn2 (eVar 2) (eC (.str [97, 98, 99, 100, 101, 102, 103, 104, 105, 106, 107, 108, 109, 110, 111, 112, 113, 114, 115, 116, 117, 118, 119, 120, 121, 122]))) (eBin pIn2 (eVar 2) (eC (.str [48, 49, 50, 51, 52, 53, 54, 55, 56, 57]))))) aNil)))))
def m_is_name : MF := mkF 1 2 b_is_name

def b_read_row : MS := (sSeq (sAsg (eMthT "str" pPartition (eVar 0) (aCons (eC (.str [58, 32])) aNil)) (gTp 3 (gCn (gNm 2) (gCn (gNm 3) (gCn (gNm 4) gNl))))) (sSeq (sAsg (eMthT "str" pSplit (eVar 4) (aCons (eC (.str [32])) aNil)) (gNm 1)) (sRet (eIfM (tAndM (tVal (eBin pNe (eVar 3) (eC (.str [])))) (tVal (eFn m_is_name (aCons (eVar 2) aNil)))) (eTup (aCons (eVar 2) (aCons (eVar 1) aNil))) (eC .non)))))
def m_read_row : MF := mkF 1 4 b_read_row

def b_is_ordered : MS := (sSeq (sAsg (eLc (itOf (eVar 1)) [3] (gNm 3) tsYes (eIfM (tVal (eBin pIn2 (eVar 3) (eVar 0))) (eMthT "list" pIndex (eVar 0) (aCons (eVar 3) aNil)) (eUn pNeg (eC (.int 1))))) (gNm 2)) (sRet (eAndM (eCall pAll (aCons (eLc (itOf (eVar 2)) [4] (gNm 4) tsYes (eBin (pIB fun i j => decide (j ≤ i)) (eVar 4) (eC (.int 0)))) aNil)) (eCall pAll (aCons (eLc (itRange2 (eC (.int 1)) (eCall pLen (aCons (eVar 2) aNil))) [4] (gNm 4) tsYes (eBin bLt (eItem (eVar 2) (eBin (pI fun i j => i - j) (eVar 4) (eC (.int 1)))) (eItem (eVar 2) (eVar 4)))) aNil)))))
def m_is_ordered : MF := mkF 2 3 b_is_ordered

def b_bits_of : MS := (sRet (eCall pSum (aCons (eLc (itOf (eVar 1)) [2] (gNm 2) tsYes (eBin (pIC bPow fun i j => i * 2 ^ j.toNat) (eC (.int 1)) (eMthT "list" pIndex (eVar 0) (aCons (eVar 2) aNil)))) aNil)))
def m_bits_of : MF := mkF 2 1 b_bits_of

def b_indexes_of : MS := (sRet (eLc (itRange1 (eUn pBits (eVar 0))) [1] (gNm 1) (tVal (eBin pEq (eBin (pI fun i j => Builtin.bitAnd i j) (eBin (pIC bShr fun i j => i / 2 ^ j.toNat) (eVar 0) (eVar 1)) (eC (.int 1))) (eC (.int 1)))) (eVar 1)))
def m_indexes_of : MF := mkF 1 1 b_indexes_of

def b_is_seeing : MS := (sSeq (sFor (itEnum (eVar 0)) (gTp 2 (gCn (gNm 1) (gCn (gNm 2) gNl))) (sIf (tOrM (tVal (eBin pEq (eBin (pI fun i j => Builtin.bitAnd i j) (eBin (pIC bShr fun i j => i / 2 ^ j.toNat) (eVar 2) (eVar 1)) (eC (.int 1))) (eC (.int 0)))) (tVal (eCall pAny (aCons (eLc (itOf (eFn m_indexes_of (aCons (eVar 2) aNil))) [3] (gNm 3) tsYes (eBin pNe (eBin (pI fun i j => Builtin.bitAnd i j) (eItem (eVar 0) (eVar 3)) (eUn pInv (eVar 2))) (eC (.int 0)))) aNil)))) (sRet (eC (.bl false))) sPass)) (sRet (eC (.bl true))))
def m_is_seeing : MF := mkF 1 3 b_is_seeing

def b_read_space : MS := (sSeq (sAsg (eLc (itOf (eMthT "str" pSplit (eVar 0) (aCons (eC (.str [10])) aNil))) [4] (gNm 4) tsYes (eFn m_read_row (aCons (eVar 4) aNil))) (gNm 1)) (sSeq (sIf (tOrM (tVal (eBin pIn2 (eC .non) (eVar 1))) (tVal (eBin (pIB fun i j => decide (j < i)) (eCall pLen (aCons (eVar 1) aNil)) (eC (.int 256))))) (sRet (eC .non)) sPass) (sSeq (sAsg (eLc (itOf (eVar 1)) [5, 3] (gTp 2 (gCn (gNm 5) (gCn (gNm 3) gNl))) tsYes (eVar 5)) (gNm 2)) (sSeq (sIf (tOrM (tVal (eBin pNe (eCall pLen (aCons (eCall pDictP (aCons (eVar 1) aNil)) aNil)) (eCall pLen (aCons (eVar 1) aNil)))) (tNotM (tVal (eCall pAll (aCons (eLc (itOf (eVar 1)) [5, 3] (gTp 2 (gCn (gNm 5) (gCn (gNm 3) gNl))) tsYes (eFn m_is_ordered (aCons (eVar 2) (aCons (eVar 3) aNil)))) aNil))))) (sRet (eC .non)) sPass) (sSeq (sAsg (eLc (itOf (eVar 1)) [5, 6] (gTp 2 (gCn (gNm 5) (gCn (gNm 6) gNl))) tsYes (eFn m_bits_of (aCons (eVar 2) (aCons (eVar 6) aNil)))) (gNm 3)) (sRet (eIfM (tVal (eFn m_is_seeing (aCons (eVar 3) aNil))) (eTup (aCons (eVar 2) (aCons (eVar 3) aNil))) (eC .non))))))))
def m_read_space : MF := mkF 1 6 b_read_space

def b_Space___init__ : MS := (sSeq (sAsg (eIfM (tVal (eIsi isiCs (eVar 1) (eC (.ty "str")))) (eFn m_read_space (aCons (eVar 1) aNil)) (eC .non)) (gNm 2)) (sSeq (sIf (tVal (eIsN (eVar 2))) sNever sPass) (sParG 3 (aCons (eVar 1) (aCons (eItem (eVar 2) (eC (.int 0))) (aCons (eItem (eVar 2) (eC (.int 1))) aNil))) (gCn (gFldM "Space" "told" (eVar 0)) (gCn (gFldM "Space" "order" (eVar 0)) (gCn (gFldM "Space" "seen" (eVar 0)) gNl))))))
def m_Space___init__ : MF := mkF 2 1 b_Space___init__

def b__law_written : MS := (sSeq (sAsg (eLstC aNil) (gNm 2)) (sSeq (sFor (itRange1 (eCall pLen (aCons (eVar 0) aNil))) (gNm 3) (sExpr (eMut isL fApp (eVar 2) (aCons (eBin pAdd (eBin pAdd (eItem (eVar 0) (eVar 3)) (eC (.str [58, 32]))) (eMthT "str" pJoin (eC (.str [32])) (aCons (eLc (itOf (eItem (eVar 1) (eVar 3))) [4] (gNm 4) tsYes (eItem (eVar 0) (eVar 4))) aNil))) aNil)))) (sRet (eMthT "str" pJoin (eC (.str [10])) (aCons (eVar 2) aNil)))))
def m__law_written : MF := mkF 2 3 b__law_written

def b__law_all_lots : MS := (sSeq (sAsg (eLst (aCons (eLst aNil) aNil)) (gNm 1)) (sSeq (sFor (itRange1 (eVar 0)) (gNm 2) (sAsg (eBin pAdd (eVar 1) (eLc (itOf (eVar 1)) [3] (gNm 3) tsYes (eBin pAdd (eVar 3) (eLst (aCons (eVar 2) aNil))))) (gNm 1))) (sRet (eVar 1))))
def m__law_all_lots : MF := mkF 1 3 b__law_all_lots

def b__law_named : MS := (sRet (eCall pTuple (aCons (eLc (itRange1 (eCall pLen (aCons (eVar 0) aNil))) [2] (gNm 2) (tVal (eBin pIn2 (eVar 2) (eVar 1))) (eItem (eVar 0) (eVar 2))) aNil)))
def m__law_named : MF := mkF 2 1 b__law_named

def b__law_rest : MS := (sRet (eLc (itRange1 (eCall pLen (aCons (eVar 0) aNil))) [2] (gNm 2) (tVal (eBin pNotIn2 (eVar 2) (eVar 1))) (eVar 2)))
def m__law_rest : MF := mkF 2 1 b__law_rest

def b__law_shut : MS := (sRet (eLc (itRange1 (eCall pLen (aCons (eVar 0) aNil))) [2] (gNm 2) (tVal (eBin pNe (eLc (itOf (eItem (eVar 0) (eVar 2))) [3] (gNm 3) (tVal (eBin pIn2 (eVar 3) (eVar 1))) (eVar 3)) (eLst aNil))) (eVar 2)))
def m__law_shut : MF := mkF 2 2 b__law_shut

def b__law_made : MS := (sSeq (sPar 3 4 (aCons (eLstC (aCons (eCall pSorted (aCons (eVar 1) aNil)) aNil)) (aCons (eLst (aCons (eCall pSorted (aCons (eVar 1) aNil)) aNil)) aNil))) (sSeq (sFor (itRange1 (eC (.int 40))) (gNm 2) (sSeq (sAsg (eLstC aNil) (gNm 5)) (sSeq (sFor (itOf (eVar 4)) (gNm 6) (sFor (itOf (eLst (aCons (eFn m__law_shut (aCons (eVar 0) (aCons (eVar 6) aNil))) (aCons (eFn m__law_rest (aCons (eVar 0) (aCons (eVar 6) aNil))) aNil)))) (gNm 7) (sIf (tVal (eBin pNotIn2 (eVar 7) (eVar 3))) (sSeq (sExpr (eMut isL fApp (eVar 3) (aCons (eVar 7) aNil))) (sExpr (eMut isL fApp (eVar 5) (aCons (eVar 7) aNil)))) sPass))) (sSeq (sAsg (eVar 5) (gNm 4)) (sIf (tVal (eBin pEq (eVar 4) (eLst aNil))) sBreak sPass))))) (sRet (eVar 3))))
def m__law_made : MF := mkF 2 6 b__law_made

def b_check_space : MS := (sIf (tNotM (tVal (eIsi isiCs (eVar 0) (eC (.glo "Space"))))) sNever sPass)
def m_check_space : MF := mkF 1 0 b_check_space

def b_is_set : MS := (sSeq (sIf (tOrM (tNotM (tVal (eIsi isiCs (eVar 1) (eC (.ty "tuple"))))) (tNotM (tVal (eCall pAll (aCons (eLc (itOf (eVar 1)) [2] (gNm 2) tsYes (eFn m_is_name (aCons (eVar 2) aNil))) aNil))))) (sRet (eC (.bl false))) sPass) (sRet (eFn m_is_ordered (aCons (eFld "Space" "order" (eVar 0)) (aCons (eVar 1) aNil)))))
def m_is_set : MF := mkF 2 1 b_is_set

def b_check_set : MS := (sIf (tNotM (tVal (eFn m_is_set (aCons (eVar 0) (aCons (eVar 1) aNil))))) sNever sPass)
def m_check_set : MF := mkF 2 0 b_check_set

def b_names_of : MS := (sRet (eCall pTuple (aCons (eLc (itOf (eFn m_indexes_of (aCons (eVar 1) aNil))) [2] (gNm 2) tsYes (eItem (eFld "Space" "order" (eVar 0)) (eVar 2))) aNil)))
def m_names_of : MF := mkF 2 1 b_names_of

def b_sorted_sets : MS := (sRet (eCall pTuple (aCons (eCall pSortedU (aCons (eLc (itOf (eVar 1)) [2] (gNm 2) tsYes (eFn m_names_of (aCons (eVar 0) (aCons (eVar 2) aNil)))) aNil)) aNil)))
def m_sorted_sets : MF := mkF 2 1 b_sorted_sets

def b_all_bits : MS := (sRet (eBin (pI fun i j => i - j) (eBin (pIC bPow fun i j => i * 2 ^ j.toNat) (eC (.int 1)) (eCall pLen (aCons (eVar 0) aNil))) (eC (.int 1))))
def m_all_bits : MF := mkF 1 0 b_all_bits

def b_closure_of : MS := (sRet (eCall pSum (aCons (eLc (itEnum (eVar 0)) [2, 3] (gTp 2 (gCn (gNm 2) (gCn (gNm 3) gNl))) (tVal (eBin pNe (eBin (pI fun i j => Builtin.bitAnd i j) (eVar 3) (eVar 1)) (eC (.int 0)))) (eBin (pIC bPow fun i j => i * 2 ^ j.toNat) (eC (.int 1)) (eVar 2))) aNil)))
def m_closure_of : MF := mkF 2 2 b_closure_of

def b_inside_of : MS := (sRet (eCall pSum (aCons (eLc (itEnum (eVar 0)) [2, 3] (gTp 2 (gCn (gNm 2) (gCn (gNm 3) gNl))) (tVal (eBin pEq (eBin (pI fun i j => Builtin.bitAnd i j) (eVar 3) (eUn pInv (eVar 1))) (eC (.int 0)))) (eBin (pIC bPow fun i j => i * 2 ^ j.toNat) (eC (.int 1)) (eVar 2))) aNil)))
def m_inside_of : MF := mkF 2 2 b_inside_of

def b_made_bits : MS := (sSeq (sFor (itOf (eUn pRev (eVar 0))) (gNm 3) (sIf (tVal (eBin pEq (eVar 3) (eC (.str [110])))) (sAsg (eBin (pI fun i j => Builtin.bitAnd i j) (eFn m_all_bits (aCons (eVar 1) aNil)) (eUn pInv (eVar 2))) (gNm 2)) (sAsg (eIfM (tVal (eBin pEq (eVar 3) (eC (.str [99])))) (eFn m_closure_of (aCons (eVar 1) (aCons (eVar 2) aNil))) (eFn m_inside_of (aCons (eVar 1) (aCons (eVar 2) aNil)))) (gNm 2)))) (sRet (eVar 2)))
def m_made_bits : MF := mkF 3 1 b_made_bits

def b_made_of : MS := (sSeq (sAsg eDctC (gNm 3)) (sSeq (sFor (itOf (eVar 2)) (gNm 4) (sPutK (eC (.bl true)) (eVar 3) (eFn m_made_bits (aCons (eVar 4) (aCons (eVar 0) (aCons (eVar 1) aNil)))))) (sRet (eCall pListK (aCons (eVar 3) aNil)))))
def m_made_of : MF := mkF 3 2 b_made_of

def b_check_kind : MS := (sIf (tOrM (tNotM (tVal (eIsi isiCs (eVar 0) (eC (.ty "str"))))) (tVal (eBin pNotIn2 (eVar 0) (eC (.tup [(.str [97, 108, 108]), (.str [109, 101, 101, 116, 105, 110, 103]), (.str [112, 105, 110, 110, 101, 100]), (.str [98, 111, 116, 104]), (.str [112, 97, 114, 116, 101, 100]), (.str [112, 108, 97, 105, 110])]))))) sNever sPass)
def m_check_kind : MF := mkF 1 0 b_check_kind

def b_words_up_to : MS := (sSeq (sPar 2 3 (aCons (eLstC (aCons (eC (.str [])) aNil)) (aCons (eLst (aCons (eC (.str [])) aNil)) aNil))) (sSeq (sFor (itRange1 (eVar 0)) (gNm 1) (sSeq (sAsg (eLc2 (itOf (eVar 3)) [4, 5] (gNm 4) tsYes (itOf (eC (.tup [(.str [99]), (.str [105]), (.str [110])]))) [5] (gNm 5) tsYes (eBin pAdd (eVar 4) (eVar 5))) (gNm 3)) (sExpr (eMut isL fExt (eVar 2) (aCons (eVar 3) aNil))))) (sRet (eVar 2))))
def m_words_up_to : MF := mkF 1 5 b_words_up_to

def b_plain_word : MS := (sSeq (sParG 2 (aCons (eC (.str [])) (aCons (eC (.bl false)) aNil)) (gCn (gNm 2) (gCn (gNm 3) gNl))) (sSeq (sFor (itOf (eVar 0)) (gNm 1) (sIf (tVal (eBin pEq (eVar 1) (eC (.str [110])))) (sAsg (eNotM (eVar 3)) (gNm 3)) (sAsg (eBin pAdd (eVar 2) (eIfM (tVal (eVar 3)) (eTabItem t_TURNED (eVar 1)) (eVar 1))) (gNm 2)))) (sRet (eTup (aCons (eVar 2) (aCons (eVar 3) aNil))))))
def m_plain_word : MF := mkF 1 3 b_plain_word

def b_shortened : MS := (sSeq (sAsg (eLst (aRwp [99, 99] [99] (aRwp [105, 105] [105] (aRwp [99, 105, 99, 105] [99, 105] (aRwp [105, 99, 105, 99] [105, 99] (aStar (eTabItem t_LAWS (eVar 1)) aNil)))))) (gNm 2)) (sSeq (sAsg (eVar 0) (gNm 3)) (sSeq (sAsg (eC .non) (gNm 0)) (sSeq (sWhile 1000 (tVal (eBin pNe (eVar 0) (eVar 3))) (sSeq (sAsg (eVar 3) (gNm 0)) (sForRep (itOf (eVar 2)) 4 5 3))) (sRet (eVar 3))))))
def m_shortened : MF := mkF 2 4 b_shortened

def b_key_of : MS := (sSeq (sAsg (eFn m_plain_word (aCons (eVar 0) aNil)) (gTp 2 (gCn (gNm 2) (gCn (gNm 3) gNl)))) (sRet (eTup (aCons (eFn m_shortened (aCons (eVar 2) (aCons (eVar 1) aNil))) (aCons (eVar 3) aNil)))))
def m_key_of : MF := mkF 2 2 b_key_of

def m_shortest_by_key : MD := mkD 1 2 1 2 (itOf (eFn m_words_up_to (aCons (eC (.int 4)) aNil))) (eFn m_key_of (aCons (eVar 2) (aCons (eVar 0) aNil)))

def b_all_words : MS := (sSeq (sExpr (eFn m_check_kind (aCons (eVar 0) aNil))) (sRet (eCall pTuple (aCons (eDVals m_shortest_by_key (aCons (eVar 0) aNil)) aNil))))
def m_all_words : MF := mkF 1 0 b_all_words

def b_made : MS := (sSeq (sExpr (eFn m_check_space (aCons (eVar 0) aNil))) (sSeq (sExpr (eFn m_check_set (aCons (eVar 0) (aCons (eVar 1) aNil)))) (sRet (eFn m_sorted_sets (aCons (eVar 0) (aCons (eFn m_made_of (aCons (eFld "Space" "seen" (eVar 0)) (aCons (eFn m_bits_of (aCons (eFld "Space" "order" (eVar 0)) (aCons (eVar 1) aNil))) (aCons (eFn m_all_words (aCons (eC (.str [97, 108, 108])) aNil)) aNil)))) aNil))))))
def m_made : MF := mkF 2 0 b_made

def b_Space_inside : MS := (sSeq (sExpr (eFn m_check_set (aCons (eVar 0) (aCons (eVar 1) aNil)))) (sRet (eFn m_names_of (aCons (eVar 0) (aCons (eFn m_inside_of (aCons (eFld "Space" "seen" (eVar 0)) (aCons (eFn m_bits_of (aCons (eFld "Space" "order" (eVar 0)) (aCons (eVar 1) aNil))) aNil))) aNil)))))
def m_Space_inside : MF := mkF 2 0 b_Space_inside

def b_Space_others : MS := (sSeq (sExpr (eFn m_check_set (aCons (eVar 0) (aCons (eVar 1) aNil)))) (sRet (eFn m_names_of (aCons (eVar 0) (aCons (eBin (pI fun i j => Builtin.bitAnd i j) (eFn m_all_bits (aCons (eFld "Space" "seen" (eVar 0)) aNil)) (eUn pInv (eFn m_bits_of (aCons (eFld "Space" "order" (eVar 0)) (aCons (eVar 1) aNil))))) aNil)))))
def m_Space_others : MF := mkF 2 0 b_Space_others

def b_Space_closure : MS := (sSeq (sExpr (eFn m_check_set (aCons (eVar 0) (aCons (eVar 1) aNil)))) (sRet (eFn m_names_of (aCons (eVar 0) (aCons (eFn m_closure_of (aCons (eFld "Space" "seen" (eVar 0)) (aCons (eFn m_bits_of (aCons (eFld "Space" "order" (eVar 0)) (aCons (eVar 1) aNil))) aNil))) aNil)))))
def m_Space_closure : MF := mkF 2 0 b_Space_closure

def b__law_right : MS := (sSeq (sAsg (eBin pAdd (eC (.int 1)) (eFn m__law_ladle (aCons (eVar 0) (aCons (eC (.int 6)) aNil)))) (gNm 1)) (sSeq (sParG 2 (aCons (eFn m__law_drawn_near (aCons (eVar 0) (aCons (eVar 1) aNil))) (aCons (eFn m__law_drawn_names (aCons (eVar 0) (aCons (eVar 1) aNil))) aNil)) (gCn (gNm 4) (gCn (gNm 5) gNl))) (sSeq (sAsg (eMake false "Space" m_Space___init__ (aCons (eFn m__law_written (aCons (eVar 5) (aCons (eVar 4) aNil))) aNil)) (gNm 2)) (sSeq (sFor (itRange1 (eC (.int 10))) (gNm 3) (sSeq (sAsg (eFn m__law_pick (aCons (eVar 0) (aCons (eFn m__law_all_lots (aCons (eVar 1) aNil)) aNil))) (gNm 6)) (sSeq (sAsg (eFn m__law_named (aCons (eVar 5) (aCons (eVar 6) aNil))) (gNm 7)) (sSeq (sAsg (eCall pTuple (aCons (eCall pSortedU (aCons (eLc (itOf (eFn m__law_made (aCons (eVar 4) (aCons (eVar 6) aNil)))) [10] (gNm 10) tsYes (eFn m__law_named (aCons (eVar 5) (aCons (eVar 10) aNil)))) aNil)) aNil)) (gNm 8)) (sSeq (sIf (tVal (eBin pNe (eCall pRepr (aCons (eLst (aCons (eFn m_made (aCons (eVar 2) (aCons (eVar 7) aNil))) (aCons (eFnK m_made 0 2 [1, 0] aNil (aCons (eVar 7) (aCons (eVar 2) aNil))) aNil))) aNil)) (eCall pRepr (aCons (eLst (aCons (eVar 8) (aCons (eVar 8) aNil))) aNil)))) (sRet (eC (.bl false))) sPass) (sSeq (sIf (tOrM (tVal (eBin pNotIn3 (eCall pLen (aCons (eVar 8) aNil)) (eLst (aCons (eC (.int 2)) (aCons (eC (.int 4)) (aCons (eC (.int 6)) (aCons (eC (.int 8)) (aCons (eC (.int 10)) (aCons (eC (.int 12)) (aCons (eC (.int 14)) aNil)))))))))) (tOrM (tVal (eBin pNotIn3 (eVar 7) (eVar 8))) (tVal (eBin pNotIn3 (eMeth "Space" "inside" m_Space_inside (eVar 2) (aCons (eVar 7) aNil)) (eVar 8))))) (sRet (eC (.bl false))) sPass) (sSeq (sIf (tVal (eBin pNe (eLc (itOf (eVar 8)) [10] (gNm 10) (tOrM (tVal (eBin pNotIn3 (eMeth "Space" "others" m_Space_others (eVar 2) (aCons (eVar 10) aNil)) (eVar 8))) (tVal (eBin pNotIn3 (eMeth "Space" "closure" m_Space_closure (eVar 2) (aCons (eVar 10) aNil)) (eVar 8)))) (eVar 10)) (eLst aNil))) (sRet (eC (.bl false))) sPass) (sSeq (sAsg (eFn m__law_pick (aCons (eVar 0) (aCons (eCall pList (aCons (eVar 8) aNil)) aNil))) (gNm 9)) (sIf (tOrM (tVal (eBin pNe (eLc (itOf (eFn m_made (aCons (eVar 2) (aCons (eVar 9) aNil)))) [10] (gNm 10) (tVal (eBin pNotIn3 (eVar 10) (eVar 8))) (eVar 10)) (eLst aNil))) (tVal (eBin pNe (eFn m_made (aCons (eVar 2) (aCons (eMeth "Space" "others" m_Space_others (eVar 2) (aCons (eVar 7) aNil)) aNil))) (eVar 8)))) (sRet (eC (.bl false))) sPass))))))))) (sRet (eBin pEq (eFn m_made (aCons (eVar 2) (aCons (eTup aNil) aNil))) (eCall pTuple (aCons (eCall pSortedU (aCons (eLst (aCons (eTup aNil) (aCons (eCall pTuple (aCons (eVar 5) aNil)) aNil))) aNil)) aNil))))))))
def m__law_right : MF := mkF 1 10 b__law_right

def b__law_urn_of : MS := (sSeq (sPar 2 3 (aCons (eIfM (tVal (eBin bLt (eVar 1) (eCall pLen (aCons (eVar 0) aNil)))) (eItem (eVar 0) (eVar 1)) (eC (.int 0))) (aCons (eBin pAdd (eC (.int 3001)) (eBin pMul (eC (.int 80021)) (eVar 1))) aNil))) (sSeq (sFor (itEnum (eSl (eVar 0) oNo (oYes (eC (.int 7))))) (gTp 2 (gCn (gNm 4) (gCn (gNm 5) gNl))) (sAsg (eBin (pIC bMod fun i j => i % j) (eCall pInt (aCons (eBin pAdd (eBin pMul (eVar 3) (eBin pAdd (eC (.int 24001)) (eBin pMul (eC (.int 26)) (eVar 4)))) (eBin pMul (eC (.int 5)) (eVar 5))) aNil)) (eC (.int 2147483323))) (gNm 3))) (sRet (eLstC (aCons (eIfM (tOrM (tVal (eBin bLt (eVar 2) (eC (.int 0)))) (tVal (eBin (pIB fun i j => decide (j ≤ i)) (eVar 2) (eBin (pIC bPow fun i j => i ^ j.toNat) (eC (.int 10)) (eC (.int 17)))))) (eCall pAbs (aCons (eVar 2) aNil)) (eC (.int 0))) (aCons (eBin (pIC bMod fun i j => i % j) (eCall pInt (aCons (eBin pAdd (eVar 3) (eBin pMul (eC (.int 66029)) (eVar 2))) aNil)) (eC (.int 2147483323))) (aCons (eC (.int 0)) aNil)))))))
def m__law_urn_of : MF := mkK 2 4 b__law_urn_of

def b_law : MS := (sRet (eCall pAll (aCons (eLc (itRange1 (eCall pMax2 (aCons (eC (.int 2)) (aCons (eCall pMin2 (aCons (eCall pLen (aCons (eVar 0) aNil)) (aCons (eC (.int 4)) aNil))) aNil)))) [1] (gNm 1) tsYes (eFn m__law_right (aCons (eFn m__law_urn_of (aCons (eVar 0) (aCons (eVar 1) aNil))) aNil))) aNil)))
def m_law : MF := mkF 1 1 b_law
end Law

namespace Law
open PySem L2 Mir
def top (i : Nat) : Stmt := PySem.Challenge.pw_closedinner_k17_whole_sets_made_by_words.main.body.getD i (.Pass ⟨0, 0, 0, 0⟩)
def inC (s : Stmt) (j : Nat) : Stmt := match s with
  | .ClassDef (body := b) .. => b.getD j (.Pass ⟨0, 0, 0, 0⟩)
  | _ => .Pass ⟨0, 0, 0, 0⟩
abbrev s__law_ladle : Stmt := top 50
abbrev s__law_drawn_names : Stmt := top 53
abbrev s__law_pick : Stmt := top 51
abbrev s__law_drawn_near : Stmt := top 52
abbrev s_is_name : Stmt := top 14
abbrev s_read_row : Stmt := top 17
abbrev s_is_ordered : Stmt := top 18
abbrev s_bits_of : Stmt := top 19
abbrev s_indexes_of : Stmt := top 22
abbrev s_is_seeing : Stmt := top 21
abbrev s_read_space : Stmt := top 20
abbrev s_Space___init__ : Stmt := inC (top 26) 0
abbrev s__law_written : Stmt := top 54
abbrev s__law_all_lots : Stmt := top 59
abbrev s__law_named : Stmt := top 55
abbrev s__law_rest : Stmt := top 57
abbrev s__law_shut : Stmt := top 56
abbrev s__law_made : Stmt := top 60
abbrev s_check_space : Stmt := top 28
abbrev s_is_set : Stmt := top 30
abbrev s_check_set : Stmt := top 31
abbrev s_names_of : Stmt := top 27
abbrev s_sorted_sets : Stmt := top 47
abbrev s_all_bits : Stmt := top 25
abbrev s_closure_of : Stmt := top 23
abbrev s_inside_of : Stmt := top 24
abbrev s_made_bits : Stmt := top 43
abbrev s_made_of : Stmt := top 45
abbrev s_check_kind : Stmt := top 32
abbrev s_words_up_to : Stmt := top 40
abbrev s_plain_word : Stmt := top 37
abbrev s_shortened : Stmt := top 38
abbrev s_key_of : Stmt := top 39
abbrev s_shortest_by_key : Stmt := top 41
abbrev s_all_words : Stmt := top 42
abbrev s_made : Stmt := top 46
abbrev s_Space_inside : Stmt := inC (top 26) 5
abbrev s_Space_others : Stmt := inC (top 26) 6
abbrev s_Space_closure : Stmt := inC (top 26) 4
abbrev s__law_right : Stmt := top 61
abbrev s__law_urn_of : Stmt := top 49
abbrev s_law : Stmt := top 62
structure Tp (w : World) (K : PySem.W.Frag) (mg : Str → Option Value) : Prop where
  f_abs : mg "abs" = none
  f_all : mg "all" = none
  f_any : mg "any" = none
  f_dict : mg "dict" = none
  f_divmod : mg "divmod" = none
  f_enumerate : mg "enumerate" = none
  f_int : mg "int" = none
  f_isinstance : mg "isinstance" = none
  f_len : mg "len" = none
  f_list : mg "list" = none
  f_max : mg "max" = none
  f_min : mg "min" = none
  f_range : mg "range" = none
  f_repr : mg "repr" = none
  f_sorted : mg "sorted" = none
  f_str : mg "str" = none
  f_sum : mg "sum" = none
  f_tuple : mg "tuple" = none
  v_DIGITS : GV K mg "DIGITS" (.str [48, 49, 50, 51, 52, 53, 54, 55, 56, 57])
  v_KINDS : GV K mg "KINDS" (.tup [(.str [97, 108, 108]), (.str [109, 101, 101, 116, 105, 110, 103]), (.str [112, 105, 110, 110, 101, 100]), (.str [98, 111, 116, 104]), (.str [112, 97, 114, 116, 101, 100]), (.str [112, 108, 97, 105, 110])])
  v_LETTERS : GV K mg "LETTERS" (.str [97, 98, 99, 100, 101, 102, 103, 104, 105, 106, 107, 108, 109, 110, 111, 112, 113, 114, 115, 116, 117, 118, 119, 120, 121, 122])
  v_LONGEST : GV K mg "LONGEST" (.int 8)
  v_MOST_POINTS : GV K mg "MOST_POINTS" (.int 256)
  v_SIGNS : GV K mg "SIGNS" (.tup [(.str [99]), (.str [105]), (.str [110])])
  k_LAWS : KTab K w mg "LAWS" t_LAWS
  k_TURNED : KTab K w mg "TURNED" t_TURNED
  g_Space : mg "Space" = some (.ref (He.ga K "Space"))
  g__law_all_lots : mg "_law_all_lots" = some (.ref (He.ga K "_law_all_lots"))
  g__law_drawn_names : mg "_law_drawn_names" = some (.ref (He.ga K "_law_drawn_names"))
  g__law_drawn_near : mg "_law_drawn_near" = some (.ref (He.ga K "_law_drawn_near"))
  g__law_ladle : mg "_law_ladle" = some (.ref (He.ga K "_law_ladle"))
  g__law_made : mg "_law_made" = some (.ref (He.ga K "_law_made"))
  g__law_named : mg "_law_named" = some (.ref (He.ga K "_law_named"))
  g__law_pick : mg "_law_pick" = some (.ref (He.ga K "_law_pick"))
  g__law_rest : mg "_law_rest" = some (.ref (He.ga K "_law_rest"))
  g__law_right : mg "_law_right" = some (.ref (He.ga K "_law_right"))
  g__law_shut : mg "_law_shut" = some (.ref (He.ga K "_law_shut"))
  g__law_urn_of : mg "_law_urn_of" = some (.ref (He.ga K "_law_urn_of"))
  g__law_written : mg "_law_written" = some (.ref (He.ga K "_law_written"))
  g_all_bits : mg "all_bits" = some (.ref (He.ga K "all_bits"))
  g_all_words : mg "all_words" = some (.ref (He.ga K "all_words"))
  g_bits_of : mg "bits_of" = some (.ref (He.ga K "bits_of"))
  g_check_kind : mg "check_kind" = some (.ref (He.ga K "check_kind"))
  g_check_set : mg "check_set" = some (.ref (He.ga K "check_set"))
  g_check_space : mg "check_space" = some (.ref (He.ga K "check_space"))
  g_closure_of : mg "closure_of" = some (.ref (He.ga K "closure_of"))
  g_indexes_of : mg "indexes_of" = some (.ref (He.ga K "indexes_of"))
  g_inside_of : mg "inside_of" = some (.ref (He.ga K "inside_of"))
  g_is_name : mg "is_name" = some (.ref (He.ga K "is_name"))
  g_is_ordered : mg "is_ordered" = some (.ref (He.ga K "is_ordered"))
  g_is_seeing : mg "is_seeing" = some (.ref (He.ga K "is_seeing"))
  g_is_set : mg "is_set" = some (.ref (He.ga K "is_set"))
  g_key_of : mg "key_of" = some (.ref (He.ga K "key_of"))
  g_law : mg "law" = some (.ref (He.ga K "law"))
  g_made : mg "made" = some (.ref (He.ga K "made"))
  g_made_bits : mg "made_bits" = some (.ref (He.ga K "made_bits"))
  g_made_of : mg "made_of" = some (.ref (He.ga K "made_of"))
  g_names_of : mg "names_of" = some (.ref (He.ga K "names_of"))
  g_plain_word : mg "plain_word" = some (.ref (He.ga K "plain_word"))
  g_read_row : mg "read_row" = some (.ref (He.ga K "read_row"))
  g_read_space : mg "read_space" = some (.ref (He.ga K "read_space"))
  g_shortened : mg "shortened" = some (.ref (He.ga K "shortened"))
  g_shortest_by_key : mg "shortest_by_key" = some (.ref (He.ga K "shortest_by_key"))
  g_sorted_sets : mg "sorted_sets" = some (.ref (He.ga K "sorted_sets"))
  g_words_up_to : mg "words_up_to" = some (.ref (He.ga K "words_up_to"))
  c_Space : Cls K (He.ga K "Space")
  n_Space_order : NoAttr K (He.ga K "Space") "order"
  n_Space_seen : NoAttr K (He.ga K "Space") "seen"
  n_Space_told : NoAttr K (He.ga K "Space") "told"
  mk_Space : Mk K (He.ga K "Space") (He.ma K (He.ga K "Space") "__init__")
  me_Space_inside : Meth K (He.ga K "Space") "inside" (He.ma K (He.ga K "Space") "inside")
  me_Space_others : Meth K (He.ga K "Space") "others" (He.ma K (He.ga K "Space") "others")
  me_Space_closure : Meth K (He.ga K "Space") "closure" (He.ma K (He.ga K "Space") "closure")
  isi : IsiC K isiCs
  d__law_ladle : ∃ fd, FunD K "_law_ladle" "_law_ladle" (defArgs s__law_ladle) (defBody s__law_ladle) (defScope s__law_ladle) [] [] (He.ga K "_law_ladle") fd
  d__law_drawn_names : ∃ fd, FunD K "_law_drawn_names" "_law_drawn_names" (defArgs s__law_drawn_names) (defBody s__law_drawn_names) (defScope s__law_drawn_names) [] [] (He.ga K "_law_drawn_names") fd
  d__law_pick : ∃ fd, FunD K "_law_pick" "_law_pick" (defArgs s__law_pick) (defBody s__law_pick) (defScope s__law_pick) [] [] (He.ga K "_law_pick") fd
  d__law_drawn_near : ∃ fd, FunD K "_law_drawn_near" "_law_drawn_near" (defArgs s__law_drawn_near) (defBody s__law_drawn_near) (defScope s__law_drawn_near) [] [] (He.ga K "_law_drawn_near") fd
  d_is_name : ∃ fd, FunD K "is_name" "is_name" (defArgs s_is_name) (defBody s_is_name) (defScope s_is_name) [] [] (He.ga K "is_name") fd
  d_read_row : ∃ fd, FunD K "read_row" "read_row" (defArgs s_read_row) (defBody s_read_row) (defScope s_read_row) [] [] (He.ga K "read_row") fd
  d_is_ordered : ∃ fd, FunD K "is_ordered" "is_ordered" (defArgs s_is_ordered) (defBody s_is_ordered) (defScope s_is_ordered) [] [] (He.ga K "is_ordered") fd
  d_bits_of : ∃ fd, FunD K "bits_of" "bits_of" (defArgs s_bits_of) (defBody s_bits_of) (defScope s_bits_of) [] [] (He.ga K "bits_of") fd
  d_indexes_of : ∃ fd, FunD K "indexes_of" "indexes_of" (defArgs s_indexes_of) (defBody s_indexes_of) (defScope s_indexes_of) [] [] (He.ga K "indexes_of") fd
  d_is_seeing : ∃ fd, FunD K "is_seeing" "is_seeing" (defArgs s_is_seeing) (defBody s_is_seeing) (defScope s_is_seeing) [] [] (He.ga K "is_seeing") fd
  d_read_space : ∃ fd, FunD K "read_space" "read_space" (defArgs s_read_space) (defBody s_read_space) (defScope s_read_space) [] [] (He.ga K "read_space") fd
  d_Space___init__ : ∃ fd, FunD K "__init__" "Space.__init__" (defArgs s_Space___init__) (defBody s_Space___init__) (defScope s_Space___init__) [] [] (He.ma K (He.ga K "Space") "__init__") fd
  d__law_written : ∃ fd, FunD K "_law_written" "_law_written" (defArgs s__law_written) (defBody s__law_written) (defScope s__law_written) [] [] (He.ga K "_law_written") fd
  d__law_all_lots : ∃ fd, FunD K "_law_all_lots" "_law_all_lots" (defArgs s__law_all_lots) (defBody s__law_all_lots) (defScope s__law_all_lots) [] [] (He.ga K "_law_all_lots") fd
  d__law_named : ∃ fd, FunD K "_law_named" "_law_named" (defArgs s__law_named) (defBody s__law_named) (defScope s__law_named) [] [] (He.ga K "_law_named") fd
  d__law_rest : ∃ fd, FunD K "_law_rest" "_law_rest" (defArgs s__law_rest) (defBody s__law_rest) (defScope s__law_rest) [] [] (He.ga K "_law_rest") fd
  d__law_shut : ∃ fd, FunD K "_law_shut" "_law_shut" (defArgs s__law_shut) (defBody s__law_shut) (defScope s__law_shut) [] [] (He.ga K "_law_shut") fd
  d__law_made : ∃ fd, FunD K "_law_made" "_law_made" (defArgs s__law_made) (defBody s__law_made) (defScope s__law_made) [] [] (He.ga K "_law_made") fd
  d_check_space : ∃ fd, FunD K "check_space" "check_space" (defArgs s_check_space) (defBody s_check_space) (defScope s_check_space) [] [] (He.ga K "check_space") fd
  d_is_set : ∃ fd, FunD K "is_set" "is_set" (defArgs s_is_set) (defBody s_is_set) (defScope s_is_set) [] [] (He.ga K "is_set") fd
  d_check_set : ∃ fd, FunD K "check_set" "check_set" (defArgs s_check_set) (defBody s_check_set) (defScope s_check_set) [] [] (He.ga K "check_set") fd
  d_names_of : ∃ fd, FunD K "names_of" "names_of" (defArgs s_names_of) (defBody s_names_of) (defScope s_names_of) [] [] (He.ga K "names_of") fd
  d_sorted_sets : ∃ fd, FunD K "sorted_sets" "sorted_sets" (defArgs s_sorted_sets) (defBody s_sorted_sets) (defScope s_sorted_sets) [] [] (He.ga K "sorted_sets") fd
  d_all_bits : ∃ fd, FunD K "all_bits" "all_bits" (defArgs s_all_bits) (defBody s_all_bits) (defScope s_all_bits) [] [] (He.ga K "all_bits") fd
  d_closure_of : ∃ fd, FunD K "closure_of" "closure_of" (defArgs s_closure_of) (defBody s_closure_of) (defScope s_closure_of) [] [] (He.ga K "closure_of") fd
  d_inside_of : ∃ fd, FunD K "inside_of" "inside_of" (defArgs s_inside_of) (defBody s_inside_of) (defScope s_inside_of) [] [] (He.ga K "inside_of") fd
  d_made_bits : ∃ fd, FunD K "made_bits" "made_bits" (defArgs s_made_bits) (defBody s_made_bits) (defScope s_made_bits) [] [] (He.ga K "made_bits") fd
  d_made_of : ∃ fd, FunD K "made_of" "made_of" (defArgs s_made_of) (defBody s_made_of) (defScope s_made_of) [] [] (He.ga K "made_of") fd
  d_check_kind : ∃ fd, FunD K "check_kind" "check_kind" (defArgs s_check_kind) (defBody s_check_kind) (defScope s_check_kind) [] [] (He.ga K "check_kind") fd
  d_words_up_to : ∃ fd, FunD K "words_up_to" "words_up_to" (defArgs s_words_up_to) (defBody s_words_up_to) (defScope s_words_up_to) [] [] (He.ga K "words_up_to") fd
  d_plain_word : ∃ fd, FunD K "plain_word" "plain_word" (defArgs s_plain_word) (defBody s_plain_word) (defScope s_plain_word) [] [] (He.ga K "plain_word") fd
  d_shortened : ∃ fd, FunD K "shortened" "shortened" (defArgs s_shortened) (defBody s_shortened) (defScope s_shortened) [] [] (He.ga K "shortened") fd
  d_key_of : ∃ fd, FunD K "key_of" "key_of" (defArgs s_key_of) (defBody s_key_of) (defScope s_key_of) [] [] (He.ga K "key_of") fd
  d_shortest_by_key : ∃ fd, FunD K "shortest_by_key" "shortest_by_key" (defArgs s_shortest_by_key) (defBody s_shortest_by_key) (defScope s_shortest_by_key) [] [] (He.ga K "shortest_by_key") fd
  d_all_words : ∃ fd, FunD K "all_words" "all_words" (defArgs s_all_words) (defBody s_all_words) (defScope s_all_words) [] [] (He.ga K "all_words") fd
  d_made : ∃ fd, FunD K "made" "made" (defArgs s_made) (defBody s_made) (defScope s_made) [] [] (He.ga K "made") fd
  d_Space_inside : ∃ fd, FunD K "inside" "Space.inside" (defArgs s_Space_inside) (defBody s_Space_inside) (defScope s_Space_inside) [] [] (He.ma K (He.ga K "Space") "inside") fd
  d_Space_others : ∃ fd, FunD K "others" "Space.others" (defArgs s_Space_others) (defBody s_Space_others) (defScope s_Space_others) [] [] (He.ma K (He.ga K "Space") "others") fd
  d_Space_closure : ∃ fd, FunD K "closure" "Space.closure" (defArgs s_Space_closure) (defBody s_Space_closure) (defScope s_Space_closure) [] [] (He.ma K (He.ga K "Space") "closure") fd
  d__law_right : ∃ fd, FunD K "_law_right" "_law_right" (defArgs s__law_right) (defBody s__law_right) (defScope s__law_right) [] [] (He.ga K "_law_right") fd
  d__law_urn_of : ∃ fd, FunD K "_law_urn_of" "_law_urn_of" (defArgs s__law_urn_of) (defBody s__law_urn_of) (defScope s__law_urn_of) [] [] (He.ga K "_law_urn_of") fd
  d_law : ∃ fd, FunD K "law" "law" (defArgs s_law) (defBody s_law) (defScope s_law) [] [] (He.ga K "law") fd
section
variable {P : Program} {w : World} {K : PySem.W.Frag} {mg : Str → Option Value} {base : Heap}
theorem sc__law_ladle : FnScope ["_law_urn", "_law_many", "_law_base", "_law_got"] ["_law_urn", "_law_many"] (defScope s__law_ladle) := ⟨rfl, rfl, rfl, by decide +kernel, rfl, by decide +kernel, by decide +kernel⟩
theorem g__law_ladle (T : Tp w K mg) : GF P w K mg base "_law_ladle" (defArgs s__law_ladle) ["_law_urn", "_law_many"] 1 m__law_ladle := by
  obtain ⟨fd, F⟩ := T.d__law_ladle
  refine ⟨T.g__law_ladle, F.kp, fd, ?_, FunD.bindsN F (fun _ _ _ _ _ _ us hl => match us, hl with | [_, _], _ => rfl), Mir.FunD.hasPar F, Mir.FunD.at_ F⟩
  refine fn_ok (k := 0) F sc__law_ladle rfl fun cdv A outer s H E hr => ?_
  have nd := sc__law_ladle.nd
  have tk := takes_of (X := cxOf (L2.CX P w) P w K mg base ["_law_urn", "_law_many", "_law_base", "_law_got"] "_law_ladle" (defScope s__law_ladle) (He.ga K "_law_ladle") cdv A outer s H E) rfl rfl rfl rfl
  have po := passes_of (X := cxOf (L2.CX P w) P w K mg base ["_law_urn", "_law_many", "_law_base", "_law_got"] "_law_ladle" (defScope s__law_ladle) (He.ga K "_law_ladle") cdv A outer s H E) rfl
  exact (oss_cons (os_if (ot_gt (oe_it (oe_var 0) oe_int) oe_int) (oss_cons (os_asg (oe_divmod T.f_divmod (oe_it (oe_var 0) oe_int) (oe_var 1)) (og_tup rfl (ogs_cons (og_sub (oe_var 0) oe_int) (ogs_cons (og_name nd) ogs_nil)))) (oss_one (os_ret (oe_var 3)))) oss_nil) (oss_cons (os_asg (oe_add (oe_it (oe_var 0) oe_int) oe_int) (og_sub (oe_var 0) oe_int)) (oss_cons (os_set (i := 2) nd (oe_mod (oe_intC T.f_int (oe_add (oe_it (oe_var 0) oe_int) (oe_mul oe_int (oe_it (oe_var 0) oe_int)))) oe_int)) (oss_cons (os_asg (oe_mod (oe_intC T.f_int (oe_add (oe_add (oe_mul (oe_var 2) (oe_add (oe_mod (oe_intC T.f_int (oe_var 2)) oe_int) oe_int)) (oe_mul oe_int (oe_it (oe_var 0) oe_int))) oe_int)) oe_int) (og_sub (oe_var 0) oe_int)) (oss_one (os_ret (oe_mod (oe_fdiv (oe_intC T.f_int (oe_it (oe_var 0) oe_int)) oe_int) (oe_var 1))))))))
theorem sc__law_drawn_names : FnScope ["_law_urn", "_law_many", "_law_turn", "_law_pool", "_law_found"] ["_law_urn", "_law_many"] (defScope s__law_drawn_names) := ⟨rfl, rfl, rfl, by decide +kernel, rfl, by decide +kernel, by decide +kernel⟩
theorem g__law_drawn_names (T : Tp w K mg) : GF P w K mg base "_law_drawn_names" (defArgs s__law_drawn_names) ["_law_urn", "_law_many"] 2 m__law_drawn_names := by
  obtain ⟨fd, F⟩ := T.d__law_drawn_names
  refine ⟨T.g__law_drawn_names, F.kp, fd, ?_, FunD.bindsN F (fun _ _ _ _ _ _ us hl => match us, hl with | [_, _], _ => rfl), Mir.FunD.hasPar F, Mir.FunD.at_ F⟩
  refine fn_ok (k := 1) F sc__law_drawn_names rfl fun cdv A outer s H E hr => ?_
  have nd := sc__law_drawn_names.nd
  have tk := takes_of (X := cxOf (L2.CX P w) P w K mg base ["_law_urn", "_law_many", "_law_turn", "_law_pool", "_law_found"] "_law_drawn_names" (defScope s__law_drawn_names) (He.ga K "_law_drawn_names") cdv A outer s H E) rfl rfl rfl rfl
  have po := passes_of (X := cxOf (L2.CX P w) P w K mg base ["_law_urn", "_law_many", "_law_turn", "_law_pool", "_law_found"] "_law_drawn_names" (defScope s__law_drawn_names) (He.ga K "_law_drawn_names") cdv A outer s H E) rfl
  exact (oss_cons (os_par (i := 3) (j := 4) rfl nd (oa_cons (oe_lstC (oa_cons oe_str (oa_cons oe_str (oa_cons oe_str (oa_cons oe_str (oa_cons oe_str (oa_cons oe_str (oa_cons oe_str (oa_cons oe_str (oa_cons oe_str (oa_cons oe_str (oa_cons oe_str oa_nil)))))))))))) (oa_cons (oe_lstC oa_nil) oa_nil))) (oss_cons (os_for po rfl (oi_range1 T.f_range (oe_var 1)) (og_name nd) (oss_one (os_expr (oe_append (oe_var 4) (oe_popAt (oe_var 3) (oe_fn (g__law_ladle T) hr (by decide) tk (oa_cons (oe_var 0) (oa_cons (oe_len T.f_len (oe_var 3)) oa_nil)))))))) (oss_one (os_ret (oe_var 4)))))
theorem sc__law_pick : FnScope ["_law_urn", "_law_menu"] ["_law_urn", "_law_menu"] (defScope s__law_pick) := ⟨rfl, rfl, rfl, by decide +kernel, rfl, by decide +kernel, by decide +kernel⟩
theorem g__law_pick (T : Tp w K mg) : GF P w K mg base "_law_pick" (defArgs s__law_pick) ["_law_urn", "_law_menu"] 2 m__law_pick := by
  obtain ⟨fd, F⟩ := T.d__law_pick
  refine ⟨T.g__law_pick, F.kp, fd, ?_, FunD.bindsN F (fun _ _ _ _ _ _ us hl => match us, hl with | [_, _], _ => rfl), Mir.FunD.hasPar F, Mir.FunD.at_ F⟩
  refine fn_ok (k := 1) F sc__law_pick rfl fun cdv A outer s H E hr => ?_
  have nd := sc__law_pick.nd
  have tk := takes_of (X := cxOf (L2.CX P w) P w K mg base ["_law_urn", "_law_menu"] "_law_pick" (defScope s__law_pick) (He.ga K "_law_pick") cdv A outer s H E) rfl rfl rfl rfl
  have po := passes_of (X := cxOf (L2.CX P w) P w K mg base ["_law_urn", "_law_menu"] "_law_pick" (defScope s__law_pick) (He.ga K "_law_pick") cdv A outer s H E) rfl
  exact (oss_one (os_ret (oe_it (oe_var 1) (oe_fn (g__law_ladle T) hr (by decide) tk (oa_cons (oe_var 0) (oa_cons (oe_len T.f_len (oe_var 1)) oa_nil))))))
theorem sc__law_drawn_near : FnScope ["_law_urn", "_law_many", "_law_k", "_law_turn", "_law_near", "_law_share", "_law_j", "_law_some", "_law_each"] ["_law_urn", "_law_many"] (defScope s__law_drawn_near) := ⟨rfl, rfl, rfl, by decide +kernel, rfl, by decide +kernel, by decide +kernel⟩
theorem g__law_drawn_near (T : Tp w K mg) : GF P w K mg base "_law_drawn_near" (defArgs s__law_drawn_near) ["_law_urn", "_law_many"] 3 m__law_drawn_near := by
  obtain ⟨fd, F⟩ := T.d__law_drawn_near
  refine ⟨T.g__law_drawn_near, F.kp, fd, ?_, FunD.bindsN F (fun _ _ _ _ _ _ us hl => match us, hl with | [_, _], _ => rfl), Mir.FunD.hasPar F, Mir.FunD.at_ F⟩
  refine fn_ok (k := 2) F sc__law_drawn_near rfl fun cdv A outer s H E hr => ?_
  have nd := sc__law_drawn_near.nd
  have tk := takes_of (X := cxOf (L2.CX P w) P w K mg base ["_law_urn", "_law_many", "_law_k", "_law_turn", "_law_near", "_law_share", "_law_j", "_law_some", "_law_each"] "_law_drawn_near" (defScope s__law_drawn_near) (He.ga K "_law_drawn_near") cdv A outer s H E) rfl rfl rfl rfl
  have po := passes_of (X := cxOf (L2.CX P w) P w K mg base ["_law_urn", "_law_many", "_law_k", "_law_turn", "_law_near", "_law_share", "_law_j", "_law_some", "_law_each"] "_law_drawn_near" (defScope s__law_drawn_near) (He.ga K "_law_drawn_near") cdv A outer s H E) rfl
  exact (oss_cons (os_parG rfl (oa_cons (oe_lcV rfl nd (oi_range1 T.f_range (oe_var 1)) (own := [("_law_k", 2)]) (blkOk_by rfl) (by decide) (fun _ _ _ _ _ => (og_name nd)) (fun _ _ _ _ _ => ots_nil) (fun _ _ _ _ _ => (oe_lstC (oa_cons (oe_var 2) oa_nil)))) (oa_cons (oe_fn (g__law_pick T) hr (by decide) tk (oa_cons (oe_var 0) (oa_cons (oe_lst (oa_cons oe_int (oa_cons oe_int (oa_cons oe_int oa_nil)))) oa_nil))) oa_nil)) (ogs_cons (og_name nd) (ogs_cons (og_name nd) ogs_nil))) (oss_cons (os_for po rfl (oi_range1 T.f_range (oe_var 1)) (og_name nd) (oss_one (os_for po rfl (oi_range1 T.f_range (oe_var 1)) (og_name nd) (oss_one (os_if (ot_w (ow_and (ot_ne hr.r (oe_var 6) (oe_var 2)) (ow_and1 (ot_eq hr.r (oe_fn (g__law_ladle T) hr (by decide) tk (oa_cons (oe_var 0) (oa_cons (oe_var 5) oa_nil))) oe_int)))) (oss_one (os_expr (oe_append (oe_it (oe_var 4) (oe_var 2)) (oe_var 6)))) oss_nil))))) (oss_cons (os_for po rfl (oi_range1 T.f_range (oe_var 1)) (og_name nd) (oss_one (os_for po rfl (oi_range1 T.f_range (oe_var 1)) (og_name nd) (oss_one (os_for po rfl (oi_of (oe_listC T.f_list (oe_it (oe_var 4) (oe_var 2)))) (og_name nd) (oss_one (os_asg (oe_add (oe_it (oe_var 4) (oe_var 2)) (oe_lc rfl nd (oi_of (oe_it (oe_var 4) (oe_var 6))) (own := [("_law_each", 8)]) (blkOk_by rfl) (by decide) (fun _ _ _ _ _ => (og_name nd)) (fun _ _ _ _ _ => ots_one (ot_notIn2 hr.r (oe_var 8) (oe_it (oe_var 4) (oe_var 2)))) (fun _ _ _ _ _ => (oe_var 8)))) (og_sub (oe_var 4) (oe_var 2))))))))) (oss_one (os_ret (oe_lc rfl nd (oi_of (oe_var 4)) (own := [("_law_some", 7)]) (blkOk_by rfl) (by decide) (fun _ _ _ _ _ => (og_name nd)) (fun _ _ _ _ _ => ots_nil) (fun _ _ _ _ _ => (oe_sorted T.f_sorted (oe_var 7)))))))))
theorem sc_is_name : FnScope ["value", "value_here", "sign"] ["value"] (defScope s_is_name) := ⟨rfl, rfl, rfl, by decide +kernel, rfl, by decide +kernel, by decide +kernel⟩
theorem g_is_name (T : Tp w K mg) : GF P w K mg base "is_name" (defArgs s_is_name) ["value"] 1 m_is_name := by
  obtain ⟨fd, F⟩ := T.d_is_name
  refine ⟨T.g_is_name, F.kp, fd, ?_, FunD.bindsN F (fun _ _ _ _ _ _ us hl => match us, hl with | [_], _ => rfl), Mir.FunD.hasPar F, Mir.FunD.at_ F⟩
  refine fn_ok (k := 0) F sc_is_name rfl fun cdv A outer s H E hr => ?_
  have nd := sc_is_name.nd
  have tk := takes_of (X := cxOf (L2.CX P w) P w K mg base ["value", "value_here", "sign"] "is_name" (defScope s_is_name) (He.ga K "is_name") cdv A outer s H E) rfl rfl rfl rfl
  have po := passes_of (X := cxOf (L2.CX P w) P w K mg base ["value", "value_here", "sign"] "is_name" (defScope s_is_name) (He.ga K "is_name") cdv A outer s H E) rfl
  exact (oss_cons (os_set (i := 1) nd (oe_var 0)) (oss_cons (os_if (ot_w (ow_or (ot_not (ot_val (oe_isi T.isi T.f_isinstance (oe_var 0) (oe_bT T.f_str)))) (ow_or (ot_not (ot_lele oe_int (oe_len T.f_len (oe_var 0)) (oe_gV T.v_LONGEST))) (ow_or1 (ot_notIn2 hr.r (oe_it (oe_var 0) oe_int) (oe_gV T.v_LETTERS)))))) (oss_one (os_ret oe_bl)) oss_nil) (oss_one (os_ret (oe_all rfl T.f_all (oe_lc rfl nd (oi_of (oe_var 1)) (own := [("sign", 2)]) (blkOk_by rfl) (by decide) (fun _ _ _ _ _ => (og_name nd)) (fun _ _ _ _ _ => ots_nil) (fun _ _ _ _ _ => (oe_or (oe_in2 hr.r (oe_var 2) (oe_gV T.v_LETTERS)) (oe_one (oe_in2 hr.r (oe_var 2) (oe_gV T.v_DIGITS)))))))))))
theorem sc_read_row : FnScope ["row", "found", "name", "mark", "tail"] ["row"] (defScope s_read_row) := ⟨rfl, rfl, rfl, by decide +kernel, rfl, by decide +kernel, by decide +kernel⟩
theorem g_read_row (T : Tp w K mg) : GF P w K mg base "read_row" (defArgs s_read_row) ["row"] 2 m_read_row := by
  obtain ⟨fd, F⟩ := T.d_read_row
  refine ⟨T.g_read_row, F.kp, fd, ?_, FunD.bindsN F (fun _ _ _ _ _ _ us hl => match us, hl with | [_], _ => rfl), Mir.FunD.hasPar F, Mir.FunD.at_ F⟩
  refine fn_ok (k := 1) F sc_read_row rfl fun cdv A outer s H E hr => ?_
  have nd := sc_read_row.nd
  have tk := takes_of (X := cxOf (L2.CX P w) P w K mg base ["row", "found", "name", "mark", "tail"] "read_row" (defScope s_read_row) (He.ga K "read_row") cdv A outer s H E) rfl rfl rfl rfl
  have po := passes_of (X := cxOf (L2.CX P w) P w K mg base ["row", "found", "name", "mark", "tail"] "read_row" (defScope s_read_row) (He.ga K "read_row") cdv A outer s H E) rfl
  exact (oss_cons (os_asg (oe_partition (oe_var 0) oe_str) (og_tup rfl (ogs_cons (og_name nd) (ogs_cons (og_name nd) (ogs_cons (og_name nd) ogs_nil))))) (oss_cons (os_set (i := 1) nd (oe_split (oe_var 4) oe_str)) (oss_one (os_ret (oe_if (ot_w (ow_and (ot_ne hr.r (oe_var 3) oe_str) (ow_and1 (ot_val (oe_fn (g_is_name T) hr (by decide) tk (oa_cons (oe_var 2) oa_nil)))))) (oe_tup (oa_cons (oe_var 2) (oa_cons (oe_var 1) oa_nil))) oe_non)))))
theorem sc_is_ordered : FnScope ["order", "names", "places", "name", "at"] ["order", "names"] (defScope s_is_ordered) := ⟨rfl, rfl, rfl, by decide +kernel, rfl, by decide +kernel, by decide +kernel⟩
theorem g_is_ordered (T : Tp w K mg) : GF P w K mg base "is_ordered" (defArgs s_is_ordered) ["order", "names"] 1 m_is_ordered := by
  obtain ⟨fd, F⟩ := T.d_is_ordered
  refine ⟨T.g_is_ordered, F.kp, fd, ?_, FunD.bindsN F (fun _ _ _ _ _ _ us hl => match us, hl with | [_, _], _ => rfl), Mir.FunD.hasPar F, Mir.FunD.at_ F⟩
  refine fn_ok (k := 0) F sc_is_ordered rfl fun cdv A outer s H E hr => ?_
  have nd := sc_is_ordered.nd
  have tk := takes_of (X := cxOf (L2.CX P w) P w K mg base ["order", "names", "places", "name", "at"] "is_ordered" (defScope s_is_ordered) (He.ga K "is_ordered") cdv A outer s H E) rfl rfl rfl rfl
  have po := passes_of (X := cxOf (L2.CX P w) P w K mg base ["order", "names", "places", "name", "at"] "is_ordered" (defScope s_is_ordered) (He.ga K "is_ordered") cdv A outer s H E) rfl
  exact (oss_cons (os_set (i := 2) nd (oe_lc rfl nd (oi_of (oe_var 1)) (own := [("name", 3)]) (blkOk_by rfl) (by decide) (fun _ _ _ _ _ => (og_name nd)) (fun _ _ _ _ _ => ots_nil) (fun _ _ _ _ _ => (oe_if (ot_in2 hr.r (oe_var 3) (oe_var 0)) (oe_index (oe_var 0) (oe_var 3)) (oe_neg oe_int))))) (oss_one (os_ret (oe_and (oe_all rfl T.f_all (oe_lc rfl nd (oi_of (oe_var 2)) (own := [("at", 4)]) (blkOk_by rfl) (by decide) (fun _ _ _ _ _ => (og_name nd)) (fun _ _ _ _ _ => ots_nil) (fun _ _ _ _ _ => (oe_ge (oe_var 4) oe_int)))) (oe_one (oe_all rfl T.f_all (oe_lc rfl nd (oi_range2 T.f_range oe_int (oe_len T.f_len (oe_var 2))) (own := [("at", 4)]) (blkOk_by rfl) (by decide) (fun _ _ _ _ _ => (og_name nd)) (fun _ _ _ _ _ => ots_nil) (fun _ _ _ _ _ => (oe_lt (oe_it (oe_var 2) (oe_sub (oe_var 4) oe_int)) (oe_it (oe_var 2) (oe_var 4)))))))))))
theorem sc_bits_of : FnScope ["order", "names", "name"] ["order", "names"] (defScope s_bits_of) := ⟨rfl, rfl, rfl, by decide +kernel, rfl, by decide +kernel, by decide +kernel⟩
theorem g_bits_of (T : Tp w K mg) : GF P w K mg base "bits_of" (defArgs s_bits_of) ["order", "names"] 1 m_bits_of := by
  obtain ⟨fd, F⟩ := T.d_bits_of
  refine ⟨T.g_bits_of, F.kp, fd, ?_, FunD.bindsN F (fun _ _ _ _ _ _ us hl => match us, hl with | [_, _], _ => rfl), Mir.FunD.hasPar F, Mir.FunD.at_ F⟩
  refine fn_ok (k := 0) F sc_bits_of rfl fun cdv A outer s H E hr => ?_
  have nd := sc_bits_of.nd
  have tk := takes_of (X := cxOf (L2.CX P w) P w K mg base ["order", "names", "name"] "bits_of" (defScope s_bits_of) (He.ga K "bits_of") cdv A outer s H E) rfl rfl rfl rfl
  have po := passes_of (X := cxOf (L2.CX P w) P w K mg base ["order", "names", "name"] "bits_of" (defScope s_bits_of) (He.ga K "bits_of") cdv A outer s H E) rfl
  exact (oss_one (os_ret (oe_sum rfl T.f_sum (oe_lc rfl nd (oi_of (oe_var 1)) (own := [("name", 2)]) (blkOk_by rfl) (by decide) (fun _ _ _ _ _ => (og_name nd)) (fun _ _ _ _ _ => ots_nil) (fun _ _ _ _ _ => (oe_shl oe_int (oe_index (oe_var 0) (oe_var 2))))))))
theorem sc_indexes_of : FnScope ["bits", "at"] ["bits"] (defScope s_indexes_of) := ⟨rfl, rfl, rfl, by decide +kernel, rfl, by decide +kernel, by decide +kernel⟩
theorem g_indexes_of (T : Tp w K mg) : GF P w K mg base "indexes_of" (defArgs s_indexes_of) ["bits"] 1 m_indexes_of := by
  obtain ⟨fd, F⟩ := T.d_indexes_of
  refine ⟨T.g_indexes_of, F.kp, fd, ?_, FunD.bindsN F (fun _ _ _ _ _ _ us hl => match us, hl with | [_], _ => rfl), Mir.FunD.hasPar F, Mir.FunD.at_ F⟩
  refine fn_ok (k := 0) F sc_indexes_of rfl fun cdv A outer s H E hr => ?_
  have nd := sc_indexes_of.nd
  have tk := takes_of (X := cxOf (L2.CX P w) P w K mg base ["bits", "at"] "indexes_of" (defScope s_indexes_of) (He.ga K "indexes_of") cdv A outer s H E) rfl rfl rfl rfl
  have po := passes_of (X := cxOf (L2.CX P w) P w K mg base ["bits", "at"] "indexes_of" (defScope s_indexes_of) (He.ga K "indexes_of") cdv A outer s H E) rfl
  exact (oss_one (os_ret (oe_lc rfl nd (oi_range1 T.f_range (oe_bits (oe_var 0))) (own := [("at", 1)]) (blkOk_by rfl) (by decide) (fun _ _ _ _ _ => (og_name nd)) (fun _ _ _ _ _ => ots_one (ot_eq hr.r (oe_band (oe_shr (oe_var 0) (oe_var 1)) oe_int) oe_int)) (fun _ _ _ _ _ => (oe_var 1)))))
theorem sc_is_seeing : FnScope ["near", "at", "bits", "other"] ["near"] (defScope s_is_seeing) := ⟨rfl, rfl, rfl, by decide +kernel, rfl, by decide +kernel, by decide +kernel⟩
theorem g_is_seeing (T : Tp w K mg) : GF P w K mg base "is_seeing" (defArgs s_is_seeing) ["near"] 2 m_is_seeing := by
  obtain ⟨fd, F⟩ := T.d_is_seeing
  refine ⟨T.g_is_seeing, F.kp, fd, ?_, FunD.bindsN F (fun _ _ _ _ _ _ us hl => match us, hl with | [_], _ => rfl), Mir.FunD.hasPar F, Mir.FunD.at_ F⟩
  refine fn_ok (k := 1) F sc_is_seeing rfl fun cdv A outer s H E hr => ?_
  have nd := sc_is_seeing.nd
  have tk := takes_of (X := cxOf (L2.CX P w) P w K mg base ["near", "at", "bits", "other"] "is_seeing" (defScope s_is_seeing) (He.ga K "is_seeing") cdv A outer s H E) rfl rfl rfl rfl
  have po := passes_of (X := cxOf (L2.CX P w) P w K mg base ["near", "at", "bits", "other"] "is_seeing" (defScope s_is_seeing) (He.ga K "is_seeing") cdv A outer s H E) rfl
  exact (oss_cons (os_for po rfl (oi_enum T.f_enumerate (oe_var 0)) (og_tup rfl (ogs_cons (og_name nd) (ogs_cons (og_name nd) ogs_nil))) (oss_one (os_if (ot_w (ow_or (ot_eq hr.r (oe_band (oe_shr (oe_var 2) (oe_var 1)) oe_int) oe_int) (ow_or1 (ot_val (oe_any rfl T.f_any (oe_lc rfl nd (oi_of (oe_fn (g_indexes_of T) hr (by decide) tk (oa_cons (oe_var 2) oa_nil))) (own := [("other", 3)]) (blkOk_by rfl) (by decide) (fun _ _ _ _ _ => (og_name nd)) (fun _ _ _ _ _ => ots_nil) (fun _ _ _ _ _ => (oe_ne hr.r (oe_band (oe_it (oe_var 0) (oe_var 3)) (oe_inv (oe_var 2))) oe_int)))))))) (oss_one (os_ret oe_bl)) oss_nil))) (oss_one (os_ret oe_bl)))
theorem sc_read_space : FnScope ["text", "rows", "order", "near", "row", "name", "names"] ["text"] (defScope s_read_space) := ⟨rfl, rfl, rfl, by decide +kernel, rfl, by decide +kernel, by decide +kernel⟩
theorem g_read_space (T : Tp w K mg) : GF P w K mg base "read_space" (defArgs s_read_space) ["text"] 3 m_read_space := by
  obtain ⟨fd, F⟩ := T.d_read_space
  refine ⟨T.g_read_space, F.kp, fd, ?_, FunD.bindsN F (fun _ _ _ _ _ _ us hl => match us, hl with | [_], _ => rfl), Mir.FunD.hasPar F, Mir.FunD.at_ F⟩
  refine fn_ok (k := 2) F sc_read_space rfl fun cdv A outer s H E hr => ?_
  have nd := sc_read_space.nd
  have tk := takes_of (X := cxOf (L2.CX P w) P w K mg base ["text", "rows", "order", "near", "row", "name", "names"] "read_space" (defScope s_read_space) (He.ga K "read_space") cdv A outer s H E) rfl rfl rfl rfl
  have po := passes_of (X := cxOf (L2.CX P w) P w K mg base ["text", "rows", "order", "near", "row", "name", "names"] "read_space" (defScope s_read_space) (He.ga K "read_space") cdv A outer s H E) rfl
  exact (oss_cons (os_setLc (i := 1) rfl nd (oi_of (oe_split (oe_var 0) oe_str)) (own := [("row", 4)]) (blkOk_by rfl) (by decide) (fun _ _ _ _ _ => (og_name nd)) (fun _ _ _ _ _ => ots_nil) (fun _ _ _ _ _ => (oe_fn (g_read_row T) hr (by decide) Mir.takes0 (oa_cons (oe_var 4) oa_nil)))) (oss_cons (os_if (ot_w (ow_or (ot_in2 hr.r oe_non (oe_var 1)) (ow_or1 (ot_gt (oe_len T.f_len (oe_var 1)) (oe_gV T.v_MOST_POINTS))))) (oss_one (os_ret oe_non)) oss_nil) (oss_cons (os_set (i := 2) nd (oe_lc rfl nd (oi_of (oe_var 1)) (own := [("name", 5), ("near", 3)]) (blkOk_by rfl) (by decide) (fun _ _ _ _ _ => (og_tup rfl (ogs_cons (og_name nd) (ogs_cons (og_name nd) ogs_nil)))) (fun _ _ _ _ _ => ots_nil) (fun _ _ _ _ _ => (oe_var 5)))) (oss_cons (os_if (ot_w (ow_or (ot_ne hr.r (oe_len T.f_len (oe_dictP rfl T.f_dict (oe_var 1))) (oe_len T.f_len (oe_var 1))) (ow_or1 (ot_not (ot_val (oe_all rfl T.f_all (oe_lc rfl nd (oi_of (oe_var 1)) (own := [("name", 5), ("near", 3)]) (blkOk_by rfl) (by decide) (fun _ _ _ _ _ => (og_tup rfl (ogs_cons (og_name nd) (ogs_cons (og_name nd) ogs_nil)))) (fun _ _ _ _ _ => ots_nil) (fun _ _ _ _ _ => (oe_fn (g_is_ordered T) hr (by decide) Mir.takes0 (oa_cons (oe_var 2) (oa_cons (oe_var 3) oa_nil))))))))))) (oss_one (os_ret oe_non)) oss_nil) (oss_cons (os_setLc (i := 3) rfl nd (oi_of (oe_var 1)) (own := [("name", 5), ("names", 6)]) (blkOk_by rfl) (by decide) (fun _ _ _ _ _ => (og_tup rfl (ogs_cons (og_name nd) (ogs_cons (og_name nd) ogs_nil)))) (fun _ _ _ _ _ => ots_nil) (fun _ _ _ _ _ => (oe_fn (g_bits_of T) hr (by decide) Mir.takes0 (oa_cons (oe_var 2) (oa_cons (oe_var 6) oa_nil))))) (oss_one (os_ret (oe_if (ot_val (oe_fn (g_is_seeing T) hr (by decide) tk (oa_cons (oe_var 3) oa_nil))) (oe_tup (oa_cons (oe_var 2) (oa_cons (oe_var 3) oa_nil))) oe_non))))))))
theorem sc_Space___init__ : FnScope ["self", "text", "found"] ["self", "text"] (defScope s_Space___init__) := ⟨rfl, rfl, rfl, by decide +kernel, rfl, by decide +kernel, by decide +kernel⟩
theorem g_Space___init__ (T : Tp w K mg) : GC P w K mg base "Space" (defArgs s_Space___init__) ["self", "text"] 4 m_Space___init__ := by
  obtain ⟨fd, F⟩ := T.d_Space___init__
  refine ⟨T.g_Space, T.mk_Space, fd, ?_, FunD.bindsN F (fun _ _ _ _ _ _ us hl => match us, hl with | [_, _], _ => rfl), Mir.FunD.hasPar F⟩
  refine fn_ok (k := 3) F sc_Space___init__ rfl fun cdv A outer s H E hr => ?_
  have nd := sc_Space___init__.nd
  have tk := takes_of (X := cxOf (L2.CX P w) P w K mg base ["self", "text", "found"] "Space.__init__" (defScope s_Space___init__) (He.ma K (He.ga K "Space") "__init__") cdv A outer s H E) rfl rfl rfl rfl
  have po := passes_of (X := cxOf (L2.CX P w) P w K mg base ["self", "text", "found"] "Space.__init__" (defScope s_Space___init__) (He.ma K (He.ga K "Space") "__init__") cdv A outer s H E) rfl
  exact (oss_cons (os_set (i := 2) nd (oe_if (ot_val (oe_isi T.isi T.f_isinstance (oe_var 1) (oe_bT T.f_str))) (oe_fn (g_read_space T) hr (by decide) tk (oa_cons (oe_var 1) oa_nil)) oe_non)) (oss_cons (os_if (ot_isN (oe_var 2)) (oss_one os_never) oss_nil) (oss_one (os_parG rfl (oa_cons (oe_var 1) (oa_cons (oe_it (oe_var 2) oe_int) (oa_cons (oe_it (oe_var 2) oe_int) oa_nil))) (ogs_cons (og_fld T.c_Space T.n_Space_told (oe_var 0)) (ogs_cons (og_fld T.c_Space T.n_Space_order (oe_var 0)) (ogs_cons (og_fld T.c_Space T.n_Space_seen (oe_var 0)) ogs_nil)))))))
theorem sc__law_written : FnScope ["_law_called", "_law_near", "_law_rows", "_law_k", "_law_j"] ["_law_called", "_law_near"] (defScope s__law_written) := ⟨rfl, rfl, rfl, by decide +kernel, rfl, by decide +kernel, by decide +kernel⟩
theorem g__law_written (T : Tp w K mg) : GF P w K mg base "_law_written" (defArgs s__law_written) ["_law_called", "_law_near"] 1 m__law_written := by
  obtain ⟨fd, F⟩ := T.d__law_written
  refine ⟨T.g__law_written, F.kp, fd, ?_, FunD.bindsN F (fun _ _ _ _ _ _ us hl => match us, hl with | [_, _], _ => rfl), Mir.FunD.hasPar F, Mir.FunD.at_ F⟩
  refine fn_ok (k := 0) F sc__law_written rfl fun cdv A outer s H E hr => ?_
  have nd := sc__law_written.nd
  have tk := takes_of (X := cxOf (L2.CX P w) P w K mg base ["_law_called", "_law_near", "_law_rows", "_law_k", "_law_j"] "_law_written" (defScope s__law_written) (He.ga K "_law_written") cdv A outer s H E) rfl rfl rfl rfl
  have po := passes_of (X := cxOf (L2.CX P w) P w K mg base ["_law_called", "_law_near", "_law_rows", "_law_k", "_law_j"] "_law_written" (defScope s__law_written) (He.ga K "_law_written") cdv A outer s H E) rfl
  exact (oss_cons (os_set (i := 2) nd (oe_lstC oa_nil)) (oss_cons (os_for po rfl (oi_range1 T.f_range (oe_len T.f_len (oe_var 0))) (og_name nd) (oss_one (os_expr (oe_append (oe_var 2) (oe_add (oe_add (oe_it (oe_var 0) (oe_var 3)) oe_str) (oe_join oe_str (oe_lc rfl nd (oi_of (oe_it (oe_var 1) (oe_var 3))) (own := [("_law_j", 4)]) (blkOk_by rfl) (by decide) (fun _ _ _ _ _ => (og_name nd)) (fun _ _ _ _ _ => ots_nil) (fun _ _ _ _ _ => (oe_it (oe_var 0) (oe_var 4)))))))))) (oss_one (os_ret (oe_join oe_str (oe_var 2))))))
theorem sc__law_all_lots : FnScope ["_law_many", "_law_found", "_law_k", "_law_lot"] ["_law_many"] (defScope s__law_all_lots) := ⟨rfl, rfl, rfl, by decide +kernel, rfl, by decide +kernel, by decide +kernel⟩
theorem g__law_all_lots (T : Tp w K mg) : GF P w K mg base "_law_all_lots" (defArgs s__law_all_lots) ["_law_many"] 1 m__law_all_lots := by
  obtain ⟨fd, F⟩ := T.d__law_all_lots
  refine ⟨T.g__law_all_lots, F.kp, fd, ?_, FunD.bindsN F (fun _ _ _ _ _ _ us hl => match us, hl with | [_], _ => rfl), Mir.FunD.hasPar F, Mir.FunD.at_ F⟩
  refine fn_ok (k := 0) F sc__law_all_lots rfl fun cdv A outer s H E hr => ?_
  have nd := sc__law_all_lots.nd
  have tk := takes_of (X := cxOf (L2.CX P w) P w K mg base ["_law_many", "_law_found", "_law_k", "_law_lot"] "_law_all_lots" (defScope s__law_all_lots) (He.ga K "_law_all_lots") cdv A outer s H E) rfl rfl rfl rfl
  have po := passes_of (X := cxOf (L2.CX P w) P w K mg base ["_law_many", "_law_found", "_law_k", "_law_lot"] "_law_all_lots" (defScope s__law_all_lots) (He.ga K "_law_all_lots") cdv A outer s H E) rfl
  exact (oss_cons (os_set (i := 1) nd (oe_lst (oa_cons (oe_lst oa_nil) oa_nil))) (oss_cons (os_for po rfl (oi_range1 T.f_range (oe_var 0)) (og_name nd) (oss_one (os_set (i := 1) nd (oe_add (oe_var 1) (oe_lc rfl nd (oi_of (oe_var 1)) (own := [("_law_lot", 3)]) (blkOk_by rfl) (by decide) (fun _ _ _ _ _ => (og_name nd)) (fun _ _ _ _ _ => ots_nil) (fun _ _ _ _ _ => (oe_add (oe_var 3) (oe_lst (oa_cons (oe_var 2) oa_nil))))))))) (oss_one (os_ret (oe_var 1)))))
theorem sc__law_named : FnScope ["_law_called", "_law_lot", "_law_k"] ["_law_called", "_law_lot"] (defScope s__law_named) := ⟨rfl, rfl, rfl, by decide +kernel, rfl, by decide +kernel, by decide +kernel⟩
theorem g__law_named (T : Tp w K mg) : GF P w K mg base "_law_named" (defArgs s__law_named) ["_law_called", "_law_lot"] 1 m__law_named := by
  obtain ⟨fd, F⟩ := T.d__law_named
  refine ⟨T.g__law_named, F.kp, fd, ?_, FunD.bindsN F (fun _ _ _ _ _ _ us hl => match us, hl with | [_, _], _ => rfl), Mir.FunD.hasPar F, Mir.FunD.at_ F⟩
  refine fn_ok (k := 0) F sc__law_named rfl fun cdv A outer s H E hr => ?_
  have nd := sc__law_named.nd
  have tk := takes_of (X := cxOf (L2.CX P w) P w K mg base ["_law_called", "_law_lot", "_law_k"] "_law_named" (defScope s__law_named) (He.ga K "_law_named") cdv A outer s H E) rfl rfl rfl rfl
  have po := passes_of (X := cxOf (L2.CX P w) P w K mg base ["_law_called", "_law_lot", "_law_k"] "_law_named" (defScope s__law_named) (He.ga K "_law_named") cdv A outer s H E) rfl
  exact (oss_one (os_ret (oe_tupleC T.f_tuple (oe_lc rfl nd (oi_range1 T.f_range (oe_len T.f_len (oe_var 0))) (own := [("_law_k", 2)]) (blkOk_by rfl) (by decide) (fun _ _ _ _ _ => (og_name nd)) (fun _ _ _ _ _ => ots_one (ot_in2 hr.r (oe_var 2) (oe_var 1))) (fun _ _ _ _ _ => (oe_it (oe_var 0) (oe_var 2)))))))
theorem sc__law_rest : FnScope ["_law_near", "_law_lot", "_law_k"] ["_law_near", "_law_lot"] (defScope s__law_rest) := ⟨rfl, rfl, rfl, by decide +kernel, rfl, by decide +kernel, by decide +kernel⟩
theorem g__law_rest (T : Tp w K mg) : GF P w K mg base "_law_rest" (defArgs s__law_rest) ["_law_near", "_law_lot"] 1 m__law_rest := by
  obtain ⟨fd, F⟩ := T.d__law_rest
  refine ⟨T.g__law_rest, F.kp, fd, ?_, FunD.bindsN F (fun _ _ _ _ _ _ us hl => match us, hl with | [_, _], _ => rfl), Mir.FunD.hasPar F, Mir.FunD.at_ F⟩
  refine fn_ok (k := 0) F sc__law_rest rfl fun cdv A outer s H E hr => ?_
  have nd := sc__law_rest.nd
  have tk := takes_of (X := cxOf (L2.CX P w) P w K mg base ["_law_near", "_law_lot", "_law_k"] "_law_rest" (defScope s__law_rest) (He.ga K "_law_rest") cdv A outer s H E) rfl rfl rfl rfl
  have po := passes_of (X := cxOf (L2.CX P w) P w K mg base ["_law_near", "_law_lot", "_law_k"] "_law_rest" (defScope s__law_rest) (He.ga K "_law_rest") cdv A outer s H E) rfl
  exact (oss_one (os_ret (oe_lc rfl nd (oi_range1 T.f_range (oe_len T.f_len (oe_var 0))) (own := [("_law_k", 2)]) (blkOk_by rfl) (by decide) (fun _ _ _ _ _ => (og_name nd)) (fun _ _ _ _ _ => ots_one (ot_notIn2 hr.r (oe_var 2) (oe_var 1))) (fun _ _ _ _ _ => (oe_var 2)))))
theorem sc__law_shut : FnScope ["_law_near", "_law_lot", "_law_k", "_law_j"] ["_law_near", "_law_lot"] (defScope s__law_shut) := ⟨rfl, rfl, rfl, by decide +kernel, rfl, by decide +kernel, by decide +kernel⟩
theorem g__law_shut (T : Tp w K mg) : GF P w K mg base "_law_shut" (defArgs s__law_shut) ["_law_near", "_law_lot"] 1 m__law_shut := by
  obtain ⟨fd, F⟩ := T.d__law_shut
  refine ⟨T.g__law_shut, F.kp, fd, ?_, FunD.bindsN F (fun _ _ _ _ _ _ us hl => match us, hl with | [_, _], _ => rfl), Mir.FunD.hasPar F, Mir.FunD.at_ F⟩
  refine fn_ok (k := 0) F sc__law_shut rfl fun cdv A outer s H E hr => ?_
  have nd := sc__law_shut.nd
  have tk := takes_of (X := cxOf (L2.CX P w) P w K mg base ["_law_near", "_law_lot", "_law_k", "_law_j"] "_law_shut" (defScope s__law_shut) (He.ga K "_law_shut") cdv A outer s H E) rfl rfl rfl rfl
  have po := passes_of (X := cxOf (L2.CX P w) P w K mg base ["_law_near", "_law_lot", "_law_k", "_law_j"] "_law_shut" (defScope s__law_shut) (He.ga K "_law_shut") cdv A outer s H E) rfl
  exact (oss_one (os_ret (oe_lc rfl nd (oi_range1 T.f_range (oe_len T.f_len (oe_var 0))) (own := [("_law_k", 2)]) (blkOk_by rfl) (by decide) (fun _ _ _ _ _ => (og_name nd)) (fun _ _ _ _ _ => ots_one (ot_ne hr.r (oe_lc rfl nd (oi_of (oe_it (oe_var 0) (oe_var 2))) (own := [("_law_j", 3)]) (blkOk_by rfl) (by decide) (fun _ _ _ _ _ => (og_name nd)) (fun _ _ _ _ _ => ots_one (ot_in2 hr.r (oe_var 3) (oe_var 1))) (fun _ _ _ _ _ => (oe_var 3))) (oe_lst oa_nil))) (fun _ _ _ _ _ => (oe_var 2)))))
theorem sc__law_made : FnScope ["_law_near", "_law_lot", "_law_turn", "_law_found", "_law_fresh", "_law_later", "_law_each", "_law_other"] ["_law_near", "_law_lot"] (defScope s__law_made) := ⟨rfl, rfl, rfl, by decide +kernel, rfl, by decide +kernel, by decide +kernel⟩
theorem g__law_made (T : Tp w K mg) : GF P w K mg base "_law_made" (defArgs s__law_made) ["_law_near", "_law_lot"] 2 m__law_made := by
  obtain ⟨fd, F⟩ := T.d__law_made
  refine ⟨T.g__law_made, F.kp, fd, ?_, FunD.bindsN F (fun _ _ _ _ _ _ us hl => match us, hl with | [_, _], _ => rfl), Mir.FunD.hasPar F, Mir.FunD.at_ F⟩
  refine fn_ok (k := 1) F sc__law_made rfl fun cdv A outer s H E hr => ?_
  have nd := sc__law_made.nd
  have tk := takes_of (X := cxOf (L2.CX P w) P w K mg base ["_law_near", "_law_lot", "_law_turn", "_law_found", "_law_fresh", "_law_later", "_law_each", "_law_other"] "_law_made" (defScope s__law_made) (He.ga K "_law_made") cdv A outer s H E) rfl rfl rfl rfl
  have po := passes_of (X := cxOf (L2.CX P w) P w K mg base ["_law_near", "_law_lot", "_law_turn", "_law_found", "_law_fresh", "_law_later", "_law_each", "_law_other"] "_law_made" (defScope s__law_made) (He.ga K "_law_made") cdv A outer s H E) rfl
  exact (oss_cons (os_par (i := 3) (j := 4) rfl nd (oa_cons (oe_lstC (oa_cons (oe_sorted T.f_sorted (oe_var 1)) oa_nil)) (oa_cons (oe_lst (oa_cons (oe_sorted T.f_sorted (oe_var 1)) oa_nil)) oa_nil))) (oss_cons (os_for po rfl (oi_range1 T.f_range oe_int) (og_name nd) (oss_cons (os_set (i := 5) nd (oe_lstC oa_nil)) (oss_cons (os_for po rfl (oi_of (oe_var 4)) (og_name nd) (oss_one (os_for po rfl (oi_of (oe_lst (oa_cons (oe_fn (g__law_shut T) hr (by decide) tk (oa_cons (oe_var 0) (oa_cons (oe_var 6) oa_nil))) (oa_cons (oe_fn (g__law_rest T) hr (by decide) tk (oa_cons (oe_var 0) (oa_cons (oe_var 6) oa_nil))) oa_nil)))) (og_name nd) (oss_one (os_if (ot_notIn2 hr.r (oe_var 7) (oe_var 3)) (oss_cons (os_expr (oe_append (oe_var 3) (oe_var 7))) (oss_one (os_expr (oe_append (oe_var 5) (oe_var 7))))) oss_nil))))) (oss_cons (os_set (i := 4) nd (oe_var 5)) (oss_one (os_if (ot_eq hr.r (oe_var 4) (oe_lst oa_nil)) (oss_one os_break) oss_nil)))))) (oss_one (os_ret (oe_var 3)))))
theorem sc_check_space : FnScope ["thing"] ["thing"] (defScope s_check_space) := ⟨rfl, rfl, rfl, by decide +kernel, rfl, by decide +kernel, by decide +kernel⟩
theorem g_check_space (T : Tp w K mg) : GF P w K mg base "check_space" (defArgs s_check_space) ["thing"] 1 m_check_space := by
  obtain ⟨fd, F⟩ := T.d_check_space
  refine ⟨T.g_check_space, F.kp, fd, ?_, FunD.bindsN F (fun _ _ _ _ _ _ us hl => match us, hl with | [_], _ => rfl), Mir.FunD.hasPar F, Mir.FunD.at_ F⟩
  refine fn_ok (k := 0) F sc_check_space rfl fun cdv A outer s H E hr => ?_
  have nd := sc_check_space.nd
  have tk := takes_of (X := cxOf (L2.CX P w) P w K mg base ["thing"] "check_space" (defScope s_check_space) (He.ga K "check_space") cdv A outer s H E) rfl rfl rfl rfl
  have po := passes_of (X := cxOf (L2.CX P w) P w K mg base ["thing"] "check_space" (defScope s_check_space) (He.ga K "check_space") cdv A outer s H E) rfl
  exact (oss_one (os_if (ot_not (ot_val (oe_isi T.isi T.f_isinstance (oe_var 0) (oe_gC T.g_Space)))) (oss_one os_never) oss_nil))
theorem sc_is_set : FnScope ["space", "thing", "point"] ["space", "thing"] (defScope s_is_set) := ⟨rfl, rfl, rfl, by decide +kernel, rfl, by decide +kernel, by decide +kernel⟩
theorem g_is_set (T : Tp w K mg) : GF P w K mg base "is_set" (defArgs s_is_set) ["space", "thing"] 2 m_is_set := by
  obtain ⟨fd, F⟩ := T.d_is_set
  refine ⟨T.g_is_set, F.kp, fd, ?_, FunD.bindsN F (fun _ _ _ _ _ _ us hl => match us, hl with | [_, _], _ => rfl), Mir.FunD.hasPar F, Mir.FunD.at_ F⟩
  refine fn_ok (k := 1) F sc_is_set rfl fun cdv A outer s H E hr => ?_
  have nd := sc_is_set.nd
  have tk := takes_of (X := cxOf (L2.CX P w) P w K mg base ["space", "thing", "point"] "is_set" (defScope s_is_set) (He.ga K "is_set") cdv A outer s H E) rfl rfl rfl rfl
  have po := passes_of (X := cxOf (L2.CX P w) P w K mg base ["space", "thing", "point"] "is_set" (defScope s_is_set) (He.ga K "is_set") cdv A outer s H E) rfl
  exact (oss_cons (os_if (ot_w (ow_or (ot_not (ot_val (oe_isi T.isi T.f_isinstance (oe_var 1) (oe_bT T.f_tuple)))) (ow_or1 (ot_not (ot_val (oe_all rfl T.f_all (oe_lc rfl nd (oi_of (oe_var 1)) (own := [("point", 2)]) (blkOk_by rfl) (by decide) (fun _ _ _ _ _ => (og_name nd)) (fun _ _ _ _ _ => ots_nil) (fun _ _ _ _ _ => (oe_fn (g_is_name T) hr (by decide) Mir.takes0 (oa_cons (oe_var 2) oa_nil)))))))))) (oss_one (os_ret oe_bl)) oss_nil) (oss_one (os_ret (oe_fn (g_is_ordered T) hr (by decide) tk (oa_cons (oe_fld T.c_Space T.n_Space_order (oe_var 0)) (oa_cons (oe_var 1) oa_nil))))))
theorem sc_check_set : FnScope ["space", "thing"] ["space", "thing"] (defScope s_check_set) := ⟨rfl, rfl, rfl, by decide +kernel, rfl, by decide +kernel, by decide +kernel⟩
theorem g_check_set (T : Tp w K mg) : GF P w K mg base "check_set" (defArgs s_check_set) ["space", "thing"] 3 m_check_set := by
  obtain ⟨fd, F⟩ := T.d_check_set
  refine ⟨T.g_check_set, F.kp, fd, ?_, FunD.bindsN F (fun _ _ _ _ _ _ us hl => match us, hl with | [_, _], _ => rfl), Mir.FunD.hasPar F, Mir.FunD.at_ F⟩
  refine fn_ok (k := 2) F sc_check_set rfl fun cdv A outer s H E hr => ?_
  have nd := sc_check_set.nd
  have tk := takes_of (X := cxOf (L2.CX P w) P w K mg base ["space", "thing"] "check_set" (defScope s_check_set) (He.ga K "check_set") cdv A outer s H E) rfl rfl rfl rfl
  have po := passes_of (X := cxOf (L2.CX P w) P w K mg base ["space", "thing"] "check_set" (defScope s_check_set) (He.ga K "check_set") cdv A outer s H E) rfl
  exact (oss_one (os_if (ot_not (ot_val (oe_fn (g_is_set T) hr (by decide) tk (oa_cons (oe_var 0) (oa_cons (oe_var 1) oa_nil))))) (oss_one os_never) oss_nil))
theorem sc_names_of : FnScope ["space", "bits", "at"] ["space", "bits"] (defScope s_names_of) := ⟨rfl, rfl, rfl, by decide +kernel, rfl, by decide +kernel, by decide +kernel⟩
theorem g_names_of (T : Tp w K mg) : GF P w K mg base "names_of" (defArgs s_names_of) ["space", "bits"] 2 m_names_of := by
  obtain ⟨fd, F⟩ := T.d_names_of
  refine ⟨T.g_names_of, F.kp, fd, ?_, FunD.bindsN F (fun _ _ _ _ _ _ us hl => match us, hl with | [_, _], _ => rfl), Mir.FunD.hasPar F, Mir.FunD.at_ F⟩
  refine fn_ok (k := 1) F sc_names_of rfl fun cdv A outer s H E hr => ?_
  have nd := sc_names_of.nd
  have tk := takes_of (X := cxOf (L2.CX P w) P w K mg base ["space", "bits", "at"] "names_of" (defScope s_names_of) (He.ga K "names_of") cdv A outer s H E) rfl rfl rfl rfl
  have po := passes_of (X := cxOf (L2.CX P w) P w K mg base ["space", "bits", "at"] "names_of" (defScope s_names_of) (He.ga K "names_of") cdv A outer s H E) rfl
  exact (oss_one (os_ret (oe_tupleC T.f_tuple (oe_lc rfl nd (oi_of (oe_fn (g_indexes_of T) hr (by decide) tk (oa_cons (oe_var 1) oa_nil))) (own := [("at", 2)]) (blkOk_by rfl) (by decide) (fun _ _ _ _ _ => (og_name nd)) (fun _ _ _ _ _ => ots_nil) (fun _ _ _ _ _ => (oe_it (oe_fld T.c_Space T.n_Space_order (oe_var 0)) (oe_var 2)))))))
theorem sc_sorted_sets : FnScope ["space", "some", "bits"] ["space", "some"] (defScope s_sorted_sets) := ⟨rfl, rfl, rfl, by decide +kernel, rfl, by decide +kernel, by decide +kernel⟩
theorem g_sorted_sets (T : Tp w K mg) : GF P w K mg base "sorted_sets" (defArgs s_sorted_sets) ["space", "some"] 3 m_sorted_sets := by
  obtain ⟨fd, F⟩ := T.d_sorted_sets
  refine ⟨T.g_sorted_sets, F.kp, fd, ?_, FunD.bindsN F (fun _ _ _ _ _ _ us hl => match us, hl with | [_, _], _ => rfl), Mir.FunD.hasPar F, Mir.FunD.at_ F⟩
  refine fn_ok (k := 2) F sc_sorted_sets rfl fun cdv A outer s H E hr => ?_
  have nd := sc_sorted_sets.nd
  have tk := takes_of (X := cxOf (L2.CX P w) P w K mg base ["space", "some", "bits"] "sorted_sets" (defScope s_sorted_sets) (He.ga K "sorted_sets") cdv A outer s H E) rfl rfl rfl rfl
  have po := passes_of (X := cxOf (L2.CX P w) P w K mg base ["space", "some", "bits"] "sorted_sets" (defScope s_sorted_sets) (He.ga K "sorted_sets") cdv A outer s H E) rfl
  exact (oss_one (os_ret (oe_tupleC T.f_tuple (oe_sortedU hr T.f_sorted (oe_lc rfl nd (oi_of (oe_var 1)) (own := [("bits", 2)]) (blkOk_by rfl) (by decide) (fun _ _ _ _ _ => (og_name nd)) (fun _ _ _ _ _ => ots_nil) (fun _ _ _ _ _ => (oe_fn (g_names_of T) hr (by decide) Mir.takes0 (oa_cons (oe_var 0) (oa_cons (oe_var 2) oa_nil)))))))))
theorem sc_all_bits : FnScope ["near"] ["near"] (defScope s_all_bits) := ⟨rfl, rfl, rfl, by decide +kernel, rfl, by decide +kernel, by decide +kernel⟩
theorem g_all_bits (T : Tp w K mg) : GF P w K mg base "all_bits" (defArgs s_all_bits) ["near"] 1 m_all_bits := by
  obtain ⟨fd, F⟩ := T.d_all_bits
  refine ⟨T.g_all_bits, F.kp, fd, ?_, FunD.bindsN F (fun _ _ _ _ _ _ us hl => match us, hl with | [_], _ => rfl), Mir.FunD.hasPar F, Mir.FunD.at_ F⟩
  refine fn_ok (k := 0) F sc_all_bits rfl fun cdv A outer s H E hr => ?_
  have nd := sc_all_bits.nd
  have tk := takes_of (X := cxOf (L2.CX P w) P w K mg base ["near"] "all_bits" (defScope s_all_bits) (He.ga K "all_bits") cdv A outer s H E) rfl rfl rfl rfl
  have po := passes_of (X := cxOf (L2.CX P w) P w K mg base ["near"] "all_bits" (defScope s_all_bits) (He.ga K "all_bits") cdv A outer s H E) rfl
  exact (oss_one (os_ret (oe_sub (oe_shl oe_int (oe_len T.f_len (oe_var 0))) oe_int)))
theorem sc_closure_of : FnScope ["near", "bits", "at", "some"] ["near", "bits"] (defScope s_closure_of) := ⟨rfl, rfl, rfl, by decide +kernel, rfl, by decide +kernel, by decide +kernel⟩
theorem g_closure_of (T : Tp w K mg) : GF P w K mg base "closure_of" (defArgs s_closure_of) ["near", "bits"] 1 m_closure_of := by
  obtain ⟨fd, F⟩ := T.d_closure_of
  refine ⟨T.g_closure_of, F.kp, fd, ?_, FunD.bindsN F (fun _ _ _ _ _ _ us hl => match us, hl with | [_, _], _ => rfl), Mir.FunD.hasPar F, Mir.FunD.at_ F⟩
  refine fn_ok (k := 0) F sc_closure_of rfl fun cdv A outer s H E hr => ?_
  have nd := sc_closure_of.nd
  have tk := takes_of (X := cxOf (L2.CX P w) P w K mg base ["near", "bits", "at", "some"] "closure_of" (defScope s_closure_of) (He.ga K "closure_of") cdv A outer s H E) rfl rfl rfl rfl
  have po := passes_of (X := cxOf (L2.CX P w) P w K mg base ["near", "bits", "at", "some"] "closure_of" (defScope s_closure_of) (He.ga K "closure_of") cdv A outer s H E) rfl
  exact (oss_one (os_ret (oe_sum rfl T.f_sum (oe_lc rfl nd (oi_enum T.f_enumerate (oe_var 0)) (own := [("at", 2), ("some", 3)]) (blkOk_by rfl) (by decide) (fun _ _ _ _ _ => (og_tup rfl (ogs_cons (og_name nd) (ogs_cons (og_name nd) ogs_nil)))) (fun _ _ _ _ _ => ots_one (ot_ne hr.r (oe_band (oe_var 3) (oe_var 1)) oe_int)) (fun _ _ _ _ _ => (oe_shl oe_int (oe_var 2)))))))
theorem sc_inside_of : FnScope ["near", "bits", "at", "some"] ["near", "bits"] (defScope s_inside_of) := ⟨rfl, rfl, rfl, by decide +kernel, rfl, by decide +kernel, by decide +kernel⟩
theorem g_inside_of (T : Tp w K mg) : GF P w K mg base "inside_of" (defArgs s_inside_of) ["near", "bits"] 1 m_inside_of := by
  obtain ⟨fd, F⟩ := T.d_inside_of
  refine ⟨T.g_inside_of, F.kp, fd, ?_, FunD.bindsN F (fun _ _ _ _ _ _ us hl => match us, hl with | [_, _], _ => rfl), Mir.FunD.hasPar F, Mir.FunD.at_ F⟩
  refine fn_ok (k := 0) F sc_inside_of rfl fun cdv A outer s H E hr => ?_
  have nd := sc_inside_of.nd
  have tk := takes_of (X := cxOf (L2.CX P w) P w K mg base ["near", "bits", "at", "some"] "inside_of" (defScope s_inside_of) (He.ga K "inside_of") cdv A outer s H E) rfl rfl rfl rfl
  have po := passes_of (X := cxOf (L2.CX P w) P w K mg base ["near", "bits", "at", "some"] "inside_of" (defScope s_inside_of) (He.ga K "inside_of") cdv A outer s H E) rfl
  exact (oss_one (os_ret (oe_sum rfl T.f_sum (oe_lc rfl nd (oi_enum T.f_enumerate (oe_var 0)) (own := [("at", 2), ("some", 3)]) (blkOk_by rfl) (by decide) (fun _ _ _ _ _ => (og_tup rfl (ogs_cons (og_name nd) (ogs_cons (og_name nd) ogs_nil)))) (fun _ _ _ _ _ => ots_one (ot_eq hr.r (oe_band (oe_var 3) (oe_inv (oe_var 1))) oe_int)) (fun _ _ _ _ _ => (oe_shl oe_int (oe_var 2)))))))
theorem sc_made_bits : FnScope ["word", "near", "bits", "sign"] ["word", "near", "bits"] (defScope s_made_bits) := ⟨rfl, rfl, rfl, by decide +kernel, rfl, by decide +kernel, by decide +kernel⟩
theorem g_made_bits (T : Tp w K mg) : GF P w K mg base "made_bits" (defArgs s_made_bits) ["word", "near", "bits"] 2 m_made_bits := by
  obtain ⟨fd, F⟩ := T.d_made_bits
  refine ⟨T.g_made_bits, F.kp, fd, ?_, FunD.bindsN F (fun _ _ _ _ _ _ us hl => match us, hl with | [_, _, _], _ => rfl), Mir.FunD.hasPar F, Mir.FunD.at_ F⟩
  refine fn_ok (k := 1) F sc_made_bits rfl fun cdv A outer s H E hr => ?_
  have nd := sc_made_bits.nd
  have tk := takes_of (X := cxOf (L2.CX P w) P w K mg base ["word", "near", "bits", "sign"] "made_bits" (defScope s_made_bits) (He.ga K "made_bits") cdv A outer s H E) rfl rfl rfl rfl
  have po := passes_of (X := cxOf (L2.CX P w) P w K mg base ["word", "near", "bits", "sign"] "made_bits" (defScope s_made_bits) (He.ga K "made_bits") cdv A outer s H E) rfl
  exact (oss_cons (os_for po rfl (oi_of (oe_rev (oe_var 0))) (og_name nd) (oss_one (os_if (ot_eq hr.r (oe_var 3) oe_str) (oss_one (os_set (i := 2) nd (oe_band (oe_fn (g_all_bits T) hr (by decide) tk (oa_cons (oe_var 1) oa_nil)) (oe_inv (oe_var 2))))) (oss_one (os_set (i := 2) nd (oe_if (ot_eq hr.r (oe_var 3) oe_str) (oe_fn (g_closure_of T) hr (by decide) tk (oa_cons (oe_var 1) (oa_cons (oe_var 2) oa_nil))) (oe_fn (g_inside_of T) hr (by decide) tk (oa_cons (oe_var 1) (oa_cons (oe_var 2) oa_nil))))))))) (oss_one (os_ret (oe_var 2))))
theorem sc_made_of : FnScope ["near", "bits", "words", "found", "word"] ["near", "bits", "words"] (defScope s_made_of) := ⟨rfl, rfl, rfl, by decide +kernel, rfl, by decide +kernel, by decide +kernel⟩
theorem g_made_of (T : Tp w K mg) : GF P w K mg base "made_of" (defArgs s_made_of) ["near", "bits", "words"] 3 m_made_of := by
  obtain ⟨fd, F⟩ := T.d_made_of
  refine ⟨T.g_made_of, F.kp, fd, ?_, FunD.bindsN F (fun _ _ _ _ _ _ us hl => match us, hl with | [_, _, _], _ => rfl), Mir.FunD.hasPar F, Mir.FunD.at_ F⟩
  refine fn_ok (k := 2) F sc_made_of rfl fun cdv A outer s H E hr => ?_
  have nd := sc_made_of.nd
  have tk := takes_of (X := cxOf (L2.CX P w) P w K mg base ["near", "bits", "words", "found", "word"] "made_of" (defScope s_made_of) (He.ga K "made_of") cdv A outer s H E) rfl rfl rfl rfl
  have po := passes_of (X := cxOf (L2.CX P w) P w K mg base ["near", "bits", "words", "found", "word"] "made_of" (defScope s_made_of) (He.ga K "made_of") cdv A outer s H E) rfl
  exact (oss_cons (os_set (i := 3) nd oe_dctC) (oss_cons (os_for po rfl (oi_of (oe_var 2)) (og_name nd) (oss_one (os_putK hr.r (oe_var 3) (oe_fn (g_made_bits T) hr (by decide) tk (oa_cons (oe_var 4) (oa_cons (oe_var 0) (oa_cons (oe_var 1) oa_nil)))) oe_bl))) (oss_one (os_ret (oe_listK rfl T.f_list (oe_var 3))))))
theorem sc_check_kind : FnScope ["kind"] ["kind"] (defScope s_check_kind) := ⟨rfl, rfl, rfl, by decide +kernel, rfl, by decide +kernel, by decide +kernel⟩
theorem g_check_kind (T : Tp w K mg) : GF P w K mg base "check_kind" (defArgs s_check_kind) ["kind"] 1 m_check_kind := by
  obtain ⟨fd, F⟩ := T.d_check_kind
  refine ⟨T.g_check_kind, F.kp, fd, ?_, FunD.bindsN F (fun _ _ _ _ _ _ us hl => match us, hl with | [_], _ => rfl), Mir.FunD.hasPar F, Mir.FunD.at_ F⟩
  refine fn_ok (k := 0) F sc_check_kind rfl fun cdv A outer s H E hr => ?_
  have nd := sc_check_kind.nd
  have tk := takes_of (X := cxOf (L2.CX P w) P w K mg base ["kind"] "check_kind" (defScope s_check_kind) (He.ga K "check_kind") cdv A outer s H E) rfl rfl rfl rfl
  have po := passes_of (X := cxOf (L2.CX P w) P w K mg base ["kind"] "check_kind" (defScope s_check_kind) (He.ga K "check_kind") cdv A outer s H E) rfl
  exact (oss_one (os_if (ot_w (ow_or (ot_not (ot_val (oe_isi T.isi T.f_isinstance (oe_var 0) (oe_bT T.f_str)))) (ow_or1 (ot_notIn2 hr.r (oe_var 0) (oe_gV T.v_KINDS))))) (oss_one os_never) oss_nil))
theorem sc_words_up_to : FnScope ["length", "at", "found", "last", "word", "sign"] ["length"] (defScope s_words_up_to) := ⟨rfl, rfl, rfl, by decide +kernel, rfl, by decide +kernel, by decide +kernel⟩
theorem g_words_up_to (T : Tp w K mg) : GF P w K mg base "words_up_to" (defArgs s_words_up_to) ["length"] 1 m_words_up_to := by
  obtain ⟨fd, F⟩ := T.d_words_up_to
  refine ⟨T.g_words_up_to, F.kp, fd, ?_, FunD.bindsN F (fun _ _ _ _ _ _ us hl => match us, hl with | [_], _ => rfl), Mir.FunD.hasPar F, Mir.FunD.at_ F⟩
  refine fn_ok (k := 0) F sc_words_up_to rfl fun cdv A outer s H E hr => ?_
  have nd := sc_words_up_to.nd
  have tk := takes_of (X := cxOf (L2.CX P w) P w K mg base ["length", "at", "found", "last", "word", "sign"] "words_up_to" (defScope s_words_up_to) (He.ga K "words_up_to") cdv A outer s H E) rfl rfl rfl rfl
  have po := passes_of (X := cxOf (L2.CX P w) P w K mg base ["length", "at", "found", "last", "word", "sign"] "words_up_to" (defScope s_words_up_to) (He.ga K "words_up_to") cdv A outer s H E) rfl
  exact (oss_cons (os_par (i := 2) (j := 3) rfl nd (oa_cons (oe_lstC (oa_cons oe_str oa_nil)) (oa_cons (oe_lst (oa_cons oe_str oa_nil)) oa_nil))) (oss_cons (os_for po rfl (oi_range1 T.f_range (oe_var 0)) (og_name nd) (oss_cons (os_setLc2 (i := 3) rfl nd (oi_of (oe_var 3)) (own := [("word", 4), ("sign", 5)]) (blkOk_by rfl) (by decide) (by decide) (by decide) (fun _ _ _ _ _ => (og_name nd)) (fun _ _ _ _ _ => ots_nil) (fun _ _ _ _ _ => (oi_of (oe_gV T.v_SIGNS))) (fun _ _ _ _ _ => (og_name nd)) (fun _ _ _ _ _ => ots_nil) (fun _ _ _ _ _ => (oe_add (oe_var 4) (oe_var 5)))) (oss_one (os_expr (oe_extend (oe_var 2) (oe_var 3)))))) (oss_one (os_ret (oe_var 2)))))
theorem sc_plain_word : FnScope ["word", "sign", "found", "is_turned"] ["word"] (defScope s_plain_word) := ⟨rfl, rfl, rfl, by decide +kernel, rfl, by decide +kernel, by decide +kernel⟩
theorem g_plain_word (T : Tp w K mg) : GF P w K mg base "plain_word" (defArgs s_plain_word) ["word"] 1 m_plain_word := by
  obtain ⟨fd, F⟩ := T.d_plain_word
  refine ⟨T.g_plain_word, F.kp, fd, ?_, FunD.bindsN F (fun _ _ _ _ _ _ us hl => match us, hl with | [_], _ => rfl), Mir.FunD.hasPar F, Mir.FunD.at_ F⟩
  refine fn_ok (k := 0) F sc_plain_word rfl fun cdv A outer s H E hr => ?_
  have nd := sc_plain_word.nd
  have tk := takes_of (X := cxOf (L2.CX P w) P w K mg base ["word", "sign", "found", "is_turned"] "plain_word" (defScope s_plain_word) (He.ga K "plain_word") cdv A outer s H E) rfl rfl rfl rfl
  have po := passes_of (X := cxOf (L2.CX P w) P w K mg base ["word", "sign", "found", "is_turned"] "plain_word" (defScope s_plain_word) (He.ga K "plain_word") cdv A outer s H E) rfl
  exact (oss_cons (os_parG rfl (oa_cons oe_str (oa_cons oe_bl oa_nil)) (ogs_cons (og_name nd) (ogs_cons (og_name nd) ogs_nil))) (oss_cons (os_for po rfl (oi_of (oe_var 0)) (og_name nd) (oss_one (os_if (ot_eq hr.r (oe_var 1) oe_str) (oss_one (os_set (i := 3) nd (oe_not (oe_var 3)))) (oss_one (os_set (i := 2) nd (oe_add (oe_var 2) (oe_if (ot_val (oe_var 3)) (oe_tabItem T.k_TURNED (oe_var 1)) (oe_var 1)))))))) (oss_one (os_ret (oe_tup (oa_cons (oe_var 2) (oa_cons (oe_var 3) oa_nil)))))))
theorem sc_shortened : FnScope ["word", "kind", "rules", "later", "old", "new"] ["word", "kind"] (defScope s_shortened) := ⟨rfl, rfl, rfl, by decide +kernel, rfl, by decide +kernel, by decide +kernel⟩
theorem g_shortened (T : Tp w K mg) : GF P w K mg base "shortened" (defArgs s_shortened) ["word", "kind"] 1 m_shortened := by
  obtain ⟨fd, F⟩ := T.d_shortened
  refine ⟨T.g_shortened, F.kp, fd, ?_, FunD.bindsN F (fun _ _ _ _ _ _ us hl => match us, hl with | [_, _], _ => rfl), Mir.FunD.hasPar F, Mir.FunD.at_ F⟩
  refine fn_okT (k := 0) F sc_shortened rfl fun cdv A outer s H E hr => ?_
  have nd := sc_shortened.nd
  have tk := takes_of (X := cxOf (L2.CX P w) P w K mg base ["word", "kind", "rules", "later", "old", "new"] "shortened" (defScope s_shortened) (He.ga K "shortened") cdv A outer s H E) rfl rfl rfl rfl
  have po := passes_of (X := cxOf (L2.CX P w) P w K mg base ["word", "kind", "rules", "later", "old", "new"] "shortened" (defScope s_shortened) (He.ga K "shortened") cdv A outer s H E) rfl
  exact (osst_pairs nd (oat_pair (y := [99, 99]) (z := [99]) (oat_pair (y := [105, 105]) (z := [105]) (oat_pair (y := [99, 105, 99, 105]) (z := [99, 105]) (oat_pair (y := [105, 99, 105, 99]) (z := [105, 99]) (oat_of (oa_star (oe_tabItem T.k_LAWS (oe_var 1)) oa_nil)))))) (oss_cons (os_set (i := 3) nd (oe_var 0)) (oss_cons (os_set (i := 0) nd oe_non) (oss_cons (os_while 1000 po (ot_ne hr.r (oe_var 0) (oe_var 3)) (oss_cons (os_set (i := 0) nd (oe_var 3)) (oss_one (os_forRep po rfl nd (oi_of (oe_var 2)))))) (oss_one (os_ret (oe_var 3)))))))
theorem sc_key_of : FnScope ["word", "kind", "found", "is_turned"] ["word", "kind"] (defScope s_key_of) := ⟨rfl, rfl, rfl, by decide +kernel, rfl, by decide +kernel, by decide +kernel⟩
theorem g_key_of (T : Tp w K mg) : GF P w K mg base "key_of" (defArgs s_key_of) ["word", "kind"] 2 m_key_of := by
  obtain ⟨fd, F⟩ := T.d_key_of
  refine ⟨T.g_key_of, F.kp, fd, ?_, FunD.bindsN F (fun _ _ _ _ _ _ us hl => match us, hl with | [_, _], _ => rfl), Mir.FunD.hasPar F, Mir.FunD.at_ F⟩
  refine fn_ok (k := 1) F sc_key_of rfl fun cdv A outer s H E hr => ?_
  have nd := sc_key_of.nd
  have tk := takes_of (X := cxOf (L2.CX P w) P w K mg base ["word", "kind", "found", "is_turned"] "key_of" (defScope s_key_of) (He.ga K "key_of") cdv A outer s H E) rfl rfl rfl rfl
  have po := passes_of (X := cxOf (L2.CX P w) P w K mg base ["word", "kind", "found", "is_turned"] "key_of" (defScope s_key_of) (He.ga K "key_of") cdv A outer s H E) rfl
  exact (oss_cons (os_asg (oe_fn (g_plain_word T) hr (by decide) tk (oa_cons (oe_var 0) oa_nil)) (og_tup rfl (ogs_cons (og_name nd) (ogs_cons (og_name nd) ogs_nil)))) (oss_one (os_ret (oe_tup (oa_cons (oe_fn (g_shortened T) hr (by decide) tk (oa_cons (oe_var 2) (oa_cons (oe_var 1) oa_nil))) (oa_cons (oe_var 3) oa_nil))))))
theorem sc_shortest_by_key : FnScope ["kind", "found", "word"] ["kind"] (defScope s_shortest_by_key) := ⟨rfl, rfl, rfl, by decide +kernel, rfl, by decide +kernel, by decide +kernel⟩
theorem g_shortest_by_key (T : Tp w K mg) : GD P w K mg base "shortest_by_key" (defArgs s_shortest_by_key) ["kind"] 3 m_shortest_by_key := by
  obtain ⟨fd, F⟩ := T.d_shortest_by_key
  refine ⟨T.g_shortest_by_key, F.kp, fd, ?_, FunD.bindsN F (fun _ _ _ _ _ _ us hl => match us, hl with | [_], _ => rfl)⟩
  refine fn_okD (k := 2) F sc_shortest_by_key rfl fun cdv A outer s H E hr => ?_
  have nd := sc_shortest_by_key.nd
  have tk := takes_of (X := cxOf (L2.CX P w) P w K mg base ["kind", "found", "word"] "shortest_by_key" (defScope s_shortest_by_key) (He.ga K "shortest_by_key") cdv A outer s H E) rfl rfl rfl rfl
  have po := passes_of (X := cxOf (L2.CX P w) P w K mg base ["kind", "found", "word"] "shortest_by_key" (defScope s_shortest_by_key) (He.ga K "shortest_by_key") cdv A outer s H E) rfl
  exact odn po rfl nd hr (oi_of (oe_fn (g_words_up_to T) hr (by decide) tk (oa_cons oe_int oa_nil))) (oe_fn (g_key_of T) hr (by decide) tk (oa_cons (oe_var 2) (oa_cons (oe_var 0) oa_nil)))
theorem sc_all_words : FnScope ["kind"] ["kind"] (defScope s_all_words) := ⟨rfl, rfl, rfl, by decide +kernel, rfl, by decide +kernel, by decide +kernel⟩
theorem g_all_words (T : Tp w K mg) : GF P w K mg base "all_words" (defArgs s_all_words) ["kind"] 4 m_all_words := by
  obtain ⟨fd, F⟩ := T.d_all_words
  refine ⟨T.g_all_words, F.kp, fd, ?_, FunD.bindsN F (fun _ _ _ _ _ _ us hl => match us, hl with | [_], _ => rfl), Mir.FunD.hasPar F, Mir.FunD.at_ F⟩
  refine fn_ok (k := 3) F sc_all_words rfl fun cdv A outer s H E hr => ?_
  have nd := sc_all_words.nd
  have tk := takes_of (X := cxOf (L2.CX P w) P w K mg base ["kind"] "all_words" (defScope s_all_words) (He.ga K "all_words") cdv A outer s H E) rfl rfl rfl rfl
  have po := passes_of (X := cxOf (L2.CX P w) P w K mg base ["kind"] "all_words" (defScope s_all_words) (He.ga K "all_words") cdv A outer s H E) rfl
  exact (oss_cons (os_expr (oe_fn (g_check_kind T) hr (by decide) tk (oa_cons (oe_var 0) oa_nil))) (oss_one (os_ret (oe_tupleC T.f_tuple (oe_dVals (g_shortest_by_key T) hr (by decide) tk rfl T.f_list (oa_cons (oe_var 0) oa_nil))))))
theorem sc_made : FnScope ["space", "subset"] ["space", "subset"] (defScope s_made) := ⟨rfl, rfl, rfl, by decide +kernel, rfl, by decide +kernel, by decide +kernel⟩
theorem g_made (T : Tp w K mg) : GF P w K mg base "made" (defArgs s_made) ["space", "subset"] 5 m_made := by
  obtain ⟨fd, F⟩ := T.d_made
  refine ⟨T.g_made, F.kp, fd, ?_, FunD.bindsN F (fun _ _ _ _ _ _ us hl => match us, hl with | [_, _], _ => rfl), Mir.FunD.hasPar F, Mir.FunD.at_ F⟩
  refine fn_ok (k := 4) F sc_made rfl fun cdv A outer s H E hr => ?_
  have nd := sc_made.nd
  have tk := takes_of (X := cxOf (L2.CX P w) P w K mg base ["space", "subset"] "made" (defScope s_made) (He.ga K "made") cdv A outer s H E) rfl rfl rfl rfl
  have po := passes_of (X := cxOf (L2.CX P w) P w K mg base ["space", "subset"] "made" (defScope s_made) (He.ga K "made") cdv A outer s H E) rfl
  exact (oss_cons (os_expr (oe_fn (g_check_space T) hr (by decide) tk (oa_cons (oe_var 0) oa_nil))) (oss_cons (os_expr (oe_fn (g_check_set T) hr (by decide) tk (oa_cons (oe_var 0) (oa_cons (oe_var 1) oa_nil)))) (oss_one (os_ret (oe_fn (g_sorted_sets T) hr (by decide) tk (oa_cons (oe_var 0) (oa_cons (oe_fn (g_made_of T) hr (by decide) tk (oa_cons (oe_fld T.c_Space T.n_Space_seen (oe_var 0)) (oa_cons (oe_fn (g_bits_of T) hr (by decide) tk (oa_cons (oe_fld T.c_Space T.n_Space_order (oe_var 0)) (oa_cons (oe_var 1) oa_nil))) (oa_cons (oe_fn (g_all_words T) hr (by decide) tk (oa_cons oe_str oa_nil)) oa_nil)))) oa_nil)))))))
theorem sc_Space_inside : FnScope ["self", "subset"] ["self", "subset"] (defScope s_Space_inside) := ⟨rfl, rfl, rfl, by decide +kernel, rfl, by decide +kernel, by decide +kernel⟩
theorem g_Space_inside (T : Tp w K mg) : GM P w K mg base "Space" "inside" (defArgs s_Space_inside) ["self", "subset"] 4 m_Space_inside := by
  obtain ⟨fd, F⟩ := T.d_Space_inside
  refine ⟨T.c_Space, T.me_Space_inside, fd, ?_, FunD.bindsN F (fun _ _ _ _ _ _ us hl => match us, hl with | [_, _], _ => rfl), Mir.FunD.hasPar F⟩
  refine fn_ok (k := 3) F sc_Space_inside rfl fun cdv A outer s H E hr => ?_
  have nd := sc_Space_inside.nd
  have tk := takes_of (X := cxOf (L2.CX P w) P w K mg base ["self", "subset"] "Space.inside" (defScope s_Space_inside) (He.ma K (He.ga K "Space") "inside") cdv A outer s H E) rfl rfl rfl rfl
  have po := passes_of (X := cxOf (L2.CX P w) P w K mg base ["self", "subset"] "Space.inside" (defScope s_Space_inside) (He.ma K (He.ga K "Space") "inside") cdv A outer s H E) rfl
  exact (oss_cons (os_expr (oe_fn (g_check_set T) hr (by decide) tk (oa_cons (oe_var 0) (oa_cons (oe_var 1) oa_nil)))) (oss_one (os_ret (oe_fn (g_names_of T) hr (by decide) tk (oa_cons (oe_var 0) (oa_cons (oe_fn (g_inside_of T) hr (by decide) tk (oa_cons (oe_fld T.c_Space T.n_Space_seen (oe_var 0)) (oa_cons (oe_fn (g_bits_of T) hr (by decide) tk (oa_cons (oe_fld T.c_Space T.n_Space_order (oe_var 0)) (oa_cons (oe_var 1) oa_nil))) oa_nil))) oa_nil))))))
theorem sc_Space_others : FnScope ["self", "subset"] ["self", "subset"] (defScope s_Space_others) := ⟨rfl, rfl, rfl, by decide +kernel, rfl, by decide +kernel, by decide +kernel⟩
theorem g_Space_others (T : Tp w K mg) : GM P w K mg base "Space" "others" (defArgs s_Space_others) ["self", "subset"] 4 m_Space_others := by
  obtain ⟨fd, F⟩ := T.d_Space_others
  refine ⟨T.c_Space, T.me_Space_others, fd, ?_, FunD.bindsN F (fun _ _ _ _ _ _ us hl => match us, hl with | [_, _], _ => rfl), Mir.FunD.hasPar F⟩
  refine fn_ok (k := 3) F sc_Space_others rfl fun cdv A outer s H E hr => ?_
  have nd := sc_Space_others.nd
  have tk := takes_of (X := cxOf (L2.CX P w) P w K mg base ["self", "subset"] "Space.others" (defScope s_Space_others) (He.ma K (He.ga K "Space") "others") cdv A outer s H E) rfl rfl rfl rfl
  have po := passes_of (X := cxOf (L2.CX P w) P w K mg base ["self", "subset"] "Space.others" (defScope s_Space_others) (He.ma K (He.ga K "Space") "others") cdv A outer s H E) rfl
  exact (oss_cons (os_expr (oe_fn (g_check_set T) hr (by decide) tk (oa_cons (oe_var 0) (oa_cons (oe_var 1) oa_nil)))) (oss_one (os_ret (oe_fn (g_names_of T) hr (by decide) tk (oa_cons (oe_var 0) (oa_cons (oe_band (oe_fn (g_all_bits T) hr (by decide) tk (oa_cons (oe_fld T.c_Space T.n_Space_seen (oe_var 0)) oa_nil)) (oe_inv (oe_fn (g_bits_of T) hr (by decide) tk (oa_cons (oe_fld T.c_Space T.n_Space_order (oe_var 0)) (oa_cons (oe_var 1) oa_nil))))) oa_nil))))))
theorem sc_Space_closure : FnScope ["self", "subset"] ["self", "subset"] (defScope s_Space_closure) := ⟨rfl, rfl, rfl, by decide +kernel, rfl, by decide +kernel, by decide +kernel⟩
theorem g_Space_closure (T : Tp w K mg) : GM P w K mg base "Space" "closure" (defArgs s_Space_closure) ["self", "subset"] 4 m_Space_closure := by
  obtain ⟨fd, F⟩ := T.d_Space_closure
  refine ⟨T.c_Space, T.me_Space_closure, fd, ?_, FunD.bindsN F (fun _ _ _ _ _ _ us hl => match us, hl with | [_, _], _ => rfl), Mir.FunD.hasPar F⟩
  refine fn_ok (k := 3) F sc_Space_closure rfl fun cdv A outer s H E hr => ?_
  have nd := sc_Space_closure.nd
  have tk := takes_of (X := cxOf (L2.CX P w) P w K mg base ["self", "subset"] "Space.closure" (defScope s_Space_closure) (He.ma K (He.ga K "Space") "closure") cdv A outer s H E) rfl rfl rfl rfl
  have po := passes_of (X := cxOf (L2.CX P w) P w K mg base ["self", "subset"] "Space.closure" (defScope s_Space_closure) (He.ma K (He.ga K "Space") "closure") cdv A outer s H E) rfl
  exact (oss_cons (os_expr (oe_fn (g_check_set T) hr (by decide) tk (oa_cons (oe_var 0) (oa_cons (oe_var 1) oa_nil)))) (oss_one (os_ret (oe_fn (g_names_of T) hr (by decide) tk (oa_cons (oe_var 0) (oa_cons (oe_fn (g_closure_of T) hr (by decide) tk (oa_cons (oe_fld T.c_Space T.n_Space_seen (oe_var 0)) (oa_cons (oe_fn (g_bits_of T) hr (by decide) tk (oa_cons (oe_fld T.c_Space T.n_Space_order (oe_var 0)) (oa_cons (oe_var 1) oa_nil))) oa_nil))) oa_nil))))))
theorem sc__law_right : FnScope ["_law_urn", "_law_many", "_law_place", "_law_turn", "_law_near", "_law_called", "_law_lot", "_law_here", "_law_due", "_law_other", "_law_each"] ["_law_urn"] (defScope s__law_right) := ⟨rfl, rfl, rfl, by decide +kernel, rfl, by decide +kernel, by decide +kernel⟩
theorem g__law_right (T : Tp w K mg) : GF P w K mg base "_law_right" (defArgs s__law_right) ["_law_urn"] 6 m__law_right := by
  obtain ⟨fd, F⟩ := T.d__law_right
  refine ⟨T.g__law_right, F.kp, fd, ?_, FunD.bindsN F (fun _ _ _ _ _ _ us hl => match us, hl with | [_], _ => rfl), Mir.FunD.hasPar F, Mir.FunD.at_ F⟩
  refine fn_ok (k := 5) F sc__law_right rfl fun cdv A outer s H E hr => ?_
  have nd := sc__law_right.nd
  have tk := takes_of (X := cxOf (L2.CX P w) P w K mg base ["_law_urn", "_law_many", "_law_place", "_law_turn", "_law_near", "_law_called", "_law_lot", "_law_here", "_law_due", "_law_other", "_law_each"] "_law_right" (defScope s__law_right) (He.ga K "_law_right") cdv A outer s H E) rfl rfl rfl rfl
  have po := passes_of (X := cxOf (L2.CX P w) P w K mg base ["_law_urn", "_law_many", "_law_place", "_law_turn", "_law_near", "_law_called", "_law_lot", "_law_here", "_law_due", "_law_other", "_law_each"] "_law_right" (defScope s__law_right) (He.ga K "_law_right") cdv A outer s H E) rfl
  exact (oss_cons (os_set (i := 1) nd (oe_add oe_int (oe_fn (g__law_ladle T) hr (by decide) tk (oa_cons (oe_var 0) (oa_cons oe_int oa_nil))))) (oss_cons (os_parG rfl (oa_cons (oe_fn (g__law_drawn_near T) hr (by decide) tk (oa_cons (oe_var 0) (oa_cons (oe_var 1) oa_nil))) (oa_cons (oe_fn (g__law_drawn_names T) hr (by decide) tk (oa_cons (oe_var 0) (oa_cons (oe_var 1) oa_nil))) oa_nil)) (ogs_cons (og_name nd) (ogs_cons (og_name nd) ogs_nil))) (oss_cons (os_set (i := 2) nd (oe_make false (g_Space___init__ T) hr (by decide) tk (oa_cons (oe_fn (g__law_written T) hr (by decide) tk (oa_cons (oe_var 5) (oa_cons (oe_var 4) oa_nil))) oa_nil))) (oss_cons (os_for po rfl (oi_range1 T.f_range oe_int) (og_name nd) (oss_cons (os_set (i := 6) nd (oe_fn (g__law_pick T) hr (by decide) tk (oa_cons (oe_var 0) (oa_cons (oe_fn (g__law_all_lots T) hr (by decide) tk (oa_cons (oe_var 1) oa_nil)) oa_nil)))) (oss_cons (os_set (i := 7) nd (oe_fn (g__law_named T) hr (by decide) tk (oa_cons (oe_var 5) (oa_cons (oe_var 6) oa_nil)))) (oss_cons (os_set (i := 8) nd (oe_tupleC T.f_tuple (oe_sortedU hr T.f_sorted (oe_lc rfl nd (oi_of (oe_fn (g__law_made T) hr (by decide) tk (oa_cons (oe_var 4) (oa_cons (oe_var 6) oa_nil)))) (own := [("_law_each", 10)]) (blkOk_by rfl) (by decide) (fun _ _ _ _ _ => (og_name nd)) (fun _ _ _ _ _ => ots_nil) (fun _ _ _ _ _ => (oe_fn (g__law_named T) hr (by decide) Mir.takes0 (oa_cons (oe_var 5) (oa_cons (oe_var 10) oa_nil)))))))) (oss_cons (os_if (ot_ne hr.r (oe_repr hr T.f_repr (oe_lst (oa_cons (oe_fn (g_made T) hr (by decide) tk (oa_cons (oe_var 2) (oa_cons (oe_var 7) oa_nil))) (oa_cons (oe_fnK0 (ks := ["subset", "space"]) (pm := [1, 0]) (g_made T) hr (by decide) tk (ok_cons (oe_var 7) (ok_cons (oe_var 2) ok_nil)) (fun _ _ _ _ _ _ _ _ _ _ us ws hu hw => match us, ws, hu, hw with | [], [_, _], _, _ => rfl)) oa_nil)))) (oe_repr hr T.f_repr (oe_lst (oa_cons (oe_var 8) (oa_cons (oe_var 8) oa_nil))))) (oss_one (os_ret oe_bl)) oss_nil) (oss_cons (os_if (ot_w (ow_or (ot_notIn3 hr.r (oe_len T.f_len (oe_var 8)) (oe_lst (oa_cons oe_int (oa_cons oe_int (oa_cons oe_int (oa_cons oe_int (oa_cons oe_int (oa_cons oe_int (oa_cons oe_int oa_nil))))))))) (ow_or (ot_notIn3 hr.r (oe_var 7) (oe_var 8)) (ow_or1 (ot_notIn3 hr.r (oe_meth (g_Space_inside T) hr (by decide) tk (oe_var 2) (oa_cons (oe_var 7) oa_nil)) (oe_var 8)))))) (oss_one (os_ret oe_bl)) oss_nil) (oss_cons (os_if (ot_ne hr.r (oe_lc rfl nd (oi_of (oe_var 8)) (own := [("_law_each", 10)]) (blkOk_by rfl) (by decide) (fun _ _ _ _ _ => (og_name nd)) (fun _ _ _ _ _ => ots_one (ot_w (ow_or (ot_notIn3 hr.r (oe_meth (g_Space_others T) hr (by decide) Mir.takes0 (oe_var 2) (oa_cons (oe_var 10) oa_nil)) (oe_var 8)) (ow_or1 (ot_notIn3 hr.r (oe_meth (g_Space_closure T) hr (by decide) Mir.takes0 (oe_var 2) (oa_cons (oe_var 10) oa_nil)) (oe_var 8)))))) (fun _ _ _ _ _ => (oe_var 10))) (oe_lst oa_nil)) (oss_one (os_ret oe_bl)) oss_nil) (oss_cons (os_set (i := 9) nd (oe_fn (g__law_pick T) hr (by decide) tk (oa_cons (oe_var 0) (oa_cons (oe_listC T.f_list (oe_var 8)) oa_nil)))) (oss_one (os_if (ot_w (ow_or (ot_ne hr.r (oe_lc rfl nd (oi_of (oe_fn (g_made T) hr (by decide) tk (oa_cons (oe_var 2) (oa_cons (oe_var 9) oa_nil)))) (own := [("_law_each", 10)]) (blkOk_by rfl) (by decide) (fun _ _ _ _ _ => (og_name nd)) (fun _ _ _ _ _ => ots_one (ot_notIn3 hr.r (oe_var 10) (oe_var 8))) (fun _ _ _ _ _ => (oe_var 10))) (oe_lst oa_nil)) (ow_or1 (ot_ne hr.r (oe_fn (g_made T) hr (by decide) tk (oa_cons (oe_var 2) (oa_cons (oe_meth (g_Space_others T) hr (by decide) tk (oe_var 2) (oa_cons (oe_var 7) oa_nil)) oa_nil))) (oe_var 8))))) (oss_one (os_ret oe_bl)) oss_nil)))))))))) (oss_one (os_ret (oe_eq hr.r (oe_fn (g_made T) hr (by decide) tk (oa_cons (oe_var 2) (oa_cons (oe_tup oa_nil) oa_nil))) (oe_tupleC T.f_tuple (oe_sortedU hr T.f_sorted (oe_lst (oa_cons (oe_tup oa_nil) (oa_cons (oe_tupleC T.f_tuple (oe_var 5)) oa_nil))))))))))))
theorem sc__law_urn_of : FnScope ["_law_script", "_law_turn", "_law_cell", "_law_mixed", "_law_at", "_law_each"] ["_law_script", "_law_turn"] (defScope s__law_urn_of) := ⟨rfl, rfl, rfl, by decide +kernel, rfl, by decide +kernel, by decide +kernel⟩
theorem g__law_urn_of (T : Tp w K mg) : GF P w K mg base "_law_urn_of" (defArgs s__law_urn_of) ["_law_script", "_law_turn"] 1 m__law_urn_of := by
  obtain ⟨fd, F⟩ := T.d__law_urn_of
  refine ⟨T.g__law_urn_of, F.kp, fd, ?_, FunD.bindsN F (fun _ _ _ _ _ _ us hl => match us, hl with | [_, _], _ => rfl), Mir.FunD.hasPar F, Mir.FunD.at_ F⟩
  refine fn_okK (k := 0) F sc__law_urn_of rfl fun cdv A outer s H E hr => ?_
  have nd := sc__law_urn_of.nd
  have tk := takes_of (X := cxOf (L2.CX P w) P w K mg base ["_law_script", "_law_turn", "_law_cell", "_law_mixed", "_law_at", "_law_each"] "_law_urn_of" (defScope s__law_urn_of) (He.ga K "_law_urn_of") cdv A outer s H E) rfl rfl rfl rfl
  have po := passes_of (X := cxOf (L2.CX P w) P w K mg base ["_law_script", "_law_turn", "_law_cell", "_law_mixed", "_law_at", "_law_each"] "_law_urn_of" (defScope s__law_urn_of) (He.ga K "_law_urn_of") cdv A outer s H E) rfl
  exact (oss_cons (os_par (i := 2) (j := 3) rfl nd (oa_cons (oe_if (ot_lt (oe_var 1) (oe_len T.f_len (oe_var 0))) (oe_it (oe_var 0) (oe_var 1)) oe_int) (oa_cons (oe_add oe_int (oe_mul oe_int (oe_var 1))) oa_nil))) (oss_cons (os_for po rfl (oi_enum T.f_enumerate (oe_slice (oe_var 0) oo_none (oo_some oe_int))) (og_tup rfl (ogs_cons (og_name nd) (ogs_cons (og_name nd) ogs_nil))) (oss_one (os_set (i := 3) nd (oe_mod (oe_intC T.f_int (oe_add (oe_mul (oe_var 3) (oe_add oe_int (oe_mul oe_int (oe_var 4)))) (oe_mul oe_int (oe_var 5)))) oe_int)))) (oss_one (os_ret (oe_lstC (oa_cons (oe_if (ot_w (ow_or (ot_lt (oe_var 2) oe_int) (ow_or1 (ot_ge (oe_var 2) (oe_pow oe_int oe_int))))) (oe_abs T.f_abs (oe_var 2)) oe_int) (oa_cons (oe_mod (oe_intC T.f_int (oe_add (oe_var 3) (oe_mul oe_int (oe_var 2)))) oe_int) (oa_cons oe_int oa_nil))))))))
theorem sc_law : FnScope ["_law_script", "_law_turn"] ["_law_script"] (defScope s_law) := ⟨rfl, rfl, rfl, by decide +kernel, rfl, by decide +kernel, by decide +kernel⟩
theorem g_law (T : Tp w K mg) : GF P w K mg base "law" (defArgs s_law) ["_law_script"] 7 m_law := by
  obtain ⟨fd, F⟩ := T.d_law
  refine ⟨T.g_law, F.kp, fd, ?_, FunD.bindsN F (fun _ _ _ _ _ _ us hl => match us, hl with | [_], _ => rfl), Mir.FunD.hasPar F, Mir.FunD.at_ F⟩
  refine fn_ok (k := 6) F sc_law rfl fun cdv A outer s H E hr => ?_
  have nd := sc_law.nd
  have tk := takes_of (X := cxOf (L2.CX P w) P w K mg base ["_law_script", "_law_turn"] "law" (defScope s_law) (He.ga K "law") cdv A outer s H E) rfl rfl rfl rfl
  have po := passes_of (X := cxOf (L2.CX P w) P w K mg base ["_law_script", "_law_turn"] "law" (defScope s_law) (He.ga K "law") cdv A outer s H E) rfl
  exact (oss_one (os_ret (oe_all rfl T.f_all (oe_lc rfl nd (oi_range1 T.f_range (oe_max2 rfl T.f_max oe_int (oe_min2 rfl T.f_min (oe_len T.f_len (oe_var 0)) oe_int))) (own := [("_law_turn", 1)]) (blkOk_by rfl) (by decide) (fun _ _ _ _ _ => (og_name nd)) (fun _ _ _ _ _ => ots_nil) (fun _ _ _ _ _ => (oe_fn (g__law_right T) hr (by decide) Mir.takes0 (oa_cons (oe_fn (g__law_urn_of T) hr (by decide) Mir.takes0 (oa_cons (oe_var 0) (oa_cons (oe_var 1) oa_nil))) oa_nil)))))))
end
def ck (K : PySem.W.Frag) : Bool := (He.Fa.free "abs").ok K && ((He.Fa.free "all").ok K && ((He.Fa.free "any").ok K && ((He.Fa.free "dict").ok K && ((He.Fa.free "divmod").ok K && ((He.Fa.free "enumerate").ok K && ((He.Fa.free "int").ok K && ((He.Fa.free "isinstance").ok K && ((He.Fa.free "len").ok K && ((He.Fa.free "list").ok K && ((He.Fa.free "max").ok K && ((He.Fa.free "min").ok K && ((He.Fa.free "range").ok K && ((He.Fa.free "repr").ok K && ((He.Fa.free "sorted").ok K && ((He.Fa.free "str").ok K && ((He.Fa.free "sum").ok K && ((He.Fa.free "tuple").ok K && (gloB K "DIGITS" (.str [48, 49, 50, 51, 52, 53, 54, 55, 56, 57]) && (gloB K "KINDS" (.tup [(.str [97, 108, 108]), (.str [109, 101, 101, 116, 105, 110, 103]), (.str [112, 105, 110, 110, 101, 100]), (.str [98, 111, 116, 104]), (.str [112, 97, 114, 116, 101, 100]), (.str [112, 108, 97, 105, 110])]) && (gloB K "LETTERS" (.str [97, 98, 99, 100, 101, 102, 103, 104, 105, 106, 107, 108, 109, 110, 111, 112, 113, 114, 115, 116, 117, 118, 119, 120, 121, 122]) && (gloB K "LONGEST" (.int 8) && (gloB K "MOST_POINTS" (.int 256) && (gloB K "SIGNS" (.tup [(.str [99]), (.str [105]), (.str [110])]) && (tabB K "LAWS" t_LAWS && (tabB K "TURNED" t_TURNED && ((He.Fa.glo "Space").ok K && ((He.Fa.glo "_law_all_lots").ok K && ((He.Fa.glo "_law_drawn_names").ok K && ((He.Fa.glo "_law_drawn_near").ok K && ((He.Fa.glo "_law_ladle").ok K && ((He.Fa.glo "_law_made").ok K && ((He.Fa.glo "_law_named").ok K && ((He.Fa.glo "_law_pick").ok K && ((He.Fa.glo "_law_rest").ok K && ((He.Fa.glo "_law_right").ok K && ((He.Fa.glo "_law_shut").ok K && ((He.Fa.glo "_law_urn_of").ok K && ((He.Fa.glo "_law_written").ok K && ((He.Fa.glo "all_bits").ok K && ((He.Fa.glo "all_words").ok K && ((He.Fa.glo "bits_of").ok K && ((He.Fa.glo "check_kind").ok K && ((He.Fa.glo "check_set").ok K && ((He.Fa.glo "check_space").ok K && ((He.Fa.glo "closure_of").ok K && ((He.Fa.glo "indexes_of").ok K && ((He.Fa.glo "inside_of").ok K && ((He.Fa.glo "is_name").ok K && ((He.Fa.glo "is_ordered").ok K && ((He.Fa.glo "is_seeing").ok K && ((He.Fa.glo "is_set").ok K && ((He.Fa.glo "key_of").ok K && ((He.Fa.glo "law").ok K && ((He.Fa.glo "made").ok K && ((He.Fa.glo "made_bits").ok K && ((He.Fa.glo "made_of").ok K && ((He.Fa.glo "names_of").ok K && ((He.Fa.glo "plain_word").ok K && ((He.Fa.glo "read_row").ok K && ((He.Fa.glo "read_space").ok K && ((He.Fa.glo "shortened").ok K && ((He.Fa.glo "shortest_by_key").ok K && ((He.Fa.glo "sorted_sets").ok K && ((He.Fa.glo "words_up_to").ok K && ((He.Fa.cls "Space").ok K && ((He.Fa.noat "Space" "order").ok K && ((He.Fa.noat "Space" "seen").ok K && ((He.Fa.noat "Space" "told").ok K && ((He.Fa.mkr "Space").ok K && ((He.Fa.meth "Space" "inside").ok K && ((He.Fa.meth "Space" "others").ok K && ((He.Fa.meth "Space" "closure").ok K && (isiB K isiCs)))))))))))))))))))))))))))))))))))))))))))))))))))))))))))))))))))))))))
def fns : List DefM := [⟨fun K => He.ga K "_law_ladle", "_law_ladle", "_law_ladle", defArgs s__law_ladle, defBody s__law_ladle, defScope s__law_ladle⟩,
  ⟨fun K => He.ga K "_law_drawn_names", "_law_drawn_names", "_law_drawn_names", defArgs s__law_drawn_names, defBody s__law_drawn_names, defScope s__law_drawn_names⟩,
  ⟨fun K => He.ga K "_law_pick", "_law_pick", "_law_pick", defArgs s__law_pick, defBody s__law_pick, defScope s__law_pick⟩,
  ⟨fun K => He.ga K "_law_drawn_near", "_law_drawn_near", "_law_drawn_near", defArgs s__law_drawn_near, defBody s__law_drawn_near, defScope s__law_drawn_near⟩,
  ⟨fun K => He.ga K "is_name", "is_name", "is_name", defArgs s_is_name, defBody s_is_name, defScope s_is_name⟩,
  ⟨fun K => He.ga K "read_row", "read_row", "read_row", defArgs s_read_row, defBody s_read_row, defScope s_read_row⟩,
  ⟨fun K => He.ga K "is_ordered", "is_ordered", "is_ordered", defArgs s_is_ordered, defBody s_is_ordered, defScope s_is_ordered⟩,
  ⟨fun K => He.ga K "bits_of", "bits_of", "bits_of", defArgs s_bits_of, defBody s_bits_of, defScope s_bits_of⟩,
  ⟨fun K => He.ga K "indexes_of", "indexes_of", "indexes_of", defArgs s_indexes_of, defBody s_indexes_of, defScope s_indexes_of⟩,
  ⟨fun K => He.ga K "is_seeing", "is_seeing", "is_seeing", defArgs s_is_seeing, defBody s_is_seeing, defScope s_is_seeing⟩,
  ⟨fun K => He.ga K "read_space", "read_space", "read_space", defArgs s_read_space, defBody s_read_space, defScope s_read_space⟩,
  ⟨fun K => He.ma K (He.ga K "Space") "__init__", "__init__", "Space.__init__", defArgs s_Space___init__, defBody s_Space___init__, defScope s_Space___init__⟩,
  ⟨fun K => He.ga K "_law_written", "_law_written", "_law_written", defArgs s__law_written, defBody s__law_written, defScope s__law_written⟩,
  ⟨fun K => He.ga K "_law_all_lots", "_law_all_lots", "_law_all_lots", defArgs s__law_all_lots, defBody s__law_all_lots, defScope s__law_all_lots⟩,
  ⟨fun K => He.ga K "_law_named", "_law_named", "_law_named", defArgs s__law_named, defBody s__law_named, defScope s__law_named⟩,
  ⟨fun K => He.ga K "_law_rest", "_law_rest", "_law_rest", defArgs s__law_rest, defBody s__law_rest, defScope s__law_rest⟩,
  ⟨fun K => He.ga K "_law_shut", "_law_shut", "_law_shut", defArgs s__law_shut, defBody s__law_shut, defScope s__law_shut⟩,
  ⟨fun K => He.ga K "_law_made", "_law_made", "_law_made", defArgs s__law_made, defBody s__law_made, defScope s__law_made⟩,
  ⟨fun K => He.ga K "check_space", "check_space", "check_space", defArgs s_check_space, defBody s_check_space, defScope s_check_space⟩,
  ⟨fun K => He.ga K "is_set", "is_set", "is_set", defArgs s_is_set, defBody s_is_set, defScope s_is_set⟩,
  ⟨fun K => He.ga K "check_set", "check_set", "check_set", defArgs s_check_set, defBody s_check_set, defScope s_check_set⟩,
  ⟨fun K => He.ga K "names_of", "names_of", "names_of", defArgs s_names_of, defBody s_names_of, defScope s_names_of⟩,
  ⟨fun K => He.ga K "sorted_sets", "sorted_sets", "sorted_sets", defArgs s_sorted_sets, defBody s_sorted_sets, defScope s_sorted_sets⟩,
  ⟨fun K => He.ga K "all_bits", "all_bits", "all_bits", defArgs s_all_bits, defBody s_all_bits, defScope s_all_bits⟩,
  ⟨fun K => He.ga K "closure_of", "closure_of", "closure_of", defArgs s_closure_of, defBody s_closure_of, defScope s_closure_of⟩,
  ⟨fun K => He.ga K "inside_of", "inside_of", "inside_of", defArgs s_inside_of, defBody s_inside_of, defScope s_inside_of⟩,
  ⟨fun K => He.ga K "made_bits", "made_bits", "made_bits", defArgs s_made_bits, defBody s_made_bits, defScope s_made_bits⟩,
  ⟨fun K => He.ga K "made_of", "made_of", "made_of", defArgs s_made_of, defBody s_made_of, defScope s_made_of⟩,
  ⟨fun K => He.ga K "check_kind", "check_kind", "check_kind", defArgs s_check_kind, defBody s_check_kind, defScope s_check_kind⟩,
  ⟨fun K => He.ga K "words_up_to", "words_up_to", "words_up_to", defArgs s_words_up_to, defBody s_words_up_to, defScope s_words_up_to⟩,
  ⟨fun K => He.ga K "plain_word", "plain_word", "plain_word", defArgs s_plain_word, defBody s_plain_word, defScope s_plain_word⟩,
  ⟨fun K => He.ga K "shortened", "shortened", "shortened", defArgs s_shortened, defBody s_shortened, defScope s_shortened⟩,
  ⟨fun K => He.ga K "key_of", "key_of", "key_of", defArgs s_key_of, defBody s_key_of, defScope s_key_of⟩,
  ⟨fun K => He.ga K "shortest_by_key", "shortest_by_key", "shortest_by_key", defArgs s_shortest_by_key, defBody s_shortest_by_key, defScope s_shortest_by_key⟩,
  ⟨fun K => He.ga K "all_words", "all_words", "all_words", defArgs s_all_words, defBody s_all_words, defScope s_all_words⟩,
  ⟨fun K => He.ga K "made", "made", "made", defArgs s_made, defBody s_made, defScope s_made⟩,
  ⟨fun K => He.ma K (He.ga K "Space") "inside", "inside", "Space.inside", defArgs s_Space_inside, defBody s_Space_inside, defScope s_Space_inside⟩,
  ⟨fun K => He.ma K (He.ga K "Space") "others", "others", "Space.others", defArgs s_Space_others, defBody s_Space_others, defScope s_Space_others⟩,
  ⟨fun K => He.ma K (He.ga K "Space") "closure", "closure", "Space.closure", defArgs s_Space_closure, defBody s_Space_closure, defScope s_Space_closure⟩,
  ⟨fun K => He.ga K "_law_right", "_law_right", "_law_right", defArgs s__law_right, defBody s__law_right, defScope s__law_right⟩,
  ⟨fun K => He.ga K "_law_urn_of", "_law_urn_of", "_law_urn_of", defArgs s__law_urn_of, defBody s__law_urn_of, defScope s__law_urn_of⟩,
  ⟨fun K => He.ga K "law", "law", "law", defArgs s_law, defBody s_law, defScope s_law⟩]
def tabs : List He.Tab := [(fun K => He.ga K "LAWS", [("all" : Str), ("meeting" : Str), ("pinned" : Str), ("both" : Str), ("parted" : Str), ("plain" : Str)]), (fun K => He.ga K "TURNED", [("c" : Str), ("i" : Str)])]
theorem tp_of {w : World} {K : PySem.W.Frag} {h : Heap} {mg : Str → Option Value} (X : K.In h) (G : h.Ns mainGlobals mg) (cT : SaysMT ck fns tabs w K) : Tp w K mg := by
  have c := cT.m
  have h0 := c.chk
  obtain ⟨a0, h1⟩ := He.ba h0
  obtain ⟨a1, h2⟩ := He.ba h1
  obtain ⟨a2, h3⟩ := He.ba h2
  obtain ⟨a3, h4⟩ := He.ba h3
  obtain ⟨a4, h5⟩ := He.ba h4
  obtain ⟨a5, h6⟩ := He.ba h5
  obtain ⟨a6, h7⟩ := He.ba h6
  obtain ⟨a7, h8⟩ := He.ba h7
  obtain ⟨a8, h9⟩ := He.ba h8
  obtain ⟨a9, h10⟩ := He.ba h9
  obtain ⟨a10, h11⟩ := He.ba h10
  obtain ⟨a11, h12⟩ := He.ba h11
  obtain ⟨a12, h13⟩ := He.ba h12
  obtain ⟨a13, h14⟩ := He.ba h13
  obtain ⟨a14, h15⟩ := He.ba h14
  obtain ⟨a15, h16⟩ := He.ba h15
  obtain ⟨a16, h17⟩ := He.ba h16
  obtain ⟨a17, h18⟩ := He.ba h17
  obtain ⟨a18, h19⟩ := He.ba h18
  obtain ⟨a19, h20⟩ := He.ba h19
  obtain ⟨a20, h21⟩ := He.ba h20
  obtain ⟨a21, h22⟩ := He.ba h21
  obtain ⟨a22, h23⟩ := He.ba h22
  obtain ⟨a23, h24⟩ := He.ba h23
  obtain ⟨a24, h25⟩ := He.ba h24
  obtain ⟨a25, h26⟩ := He.ba h25
  obtain ⟨a26, h27⟩ := He.ba h26
  obtain ⟨a27, h28⟩ := He.ba h27
  obtain ⟨a28, h29⟩ := He.ba h28
  obtain ⟨a29, h30⟩ := He.ba h29
  obtain ⟨a30, h31⟩ := He.ba h30
  obtain ⟨a31, h32⟩ := He.ba h31
  obtain ⟨a32, h33⟩ := He.ba h32
  obtain ⟨a33, h34⟩ := He.ba h33
  obtain ⟨a34, h35⟩ := He.ba h34
  obtain ⟨a35, h36⟩ := He.ba h35
  obtain ⟨a36, h37⟩ := He.ba h36
  obtain ⟨a37, h38⟩ := He.ba h37
  obtain ⟨a38, h39⟩ := He.ba h38
  obtain ⟨a39, h40⟩ := He.ba h39
  obtain ⟨a40, h41⟩ := He.ba h40
  obtain ⟨a41, h42⟩ := He.ba h41
  obtain ⟨a42, h43⟩ := He.ba h42
  obtain ⟨a43, h44⟩ := He.ba h43
  obtain ⟨a44, h45⟩ := He.ba h44
  obtain ⟨a45, h46⟩ := He.ba h45
  obtain ⟨a46, h47⟩ := He.ba h46
  obtain ⟨a47, h48⟩ := He.ba h47
  obtain ⟨a48, h49⟩ := He.ba h48
  obtain ⟨a49, h50⟩ := He.ba h49
  obtain ⟨a50, h51⟩ := He.ba h50
  obtain ⟨a51, h52⟩ := He.ba h51
  obtain ⟨a52, h53⟩ := He.ba h52
  obtain ⟨a53, h54⟩ := He.ba h53
  obtain ⟨a54, h55⟩ := He.ba h54
  obtain ⟨a55, h56⟩ := He.ba h55
  obtain ⟨a56, h57⟩ := He.ba h56
  obtain ⟨a57, h58⟩ := He.ba h57
  obtain ⟨a58, h59⟩ := He.ba h58
  obtain ⟨a59, h60⟩ := He.ba h59
  obtain ⟨a60, h61⟩ := He.ba h60
  obtain ⟨a61, h62⟩ := He.ba h61
  obtain ⟨a62, h63⟩ := He.ba h62
  obtain ⟨a63, h64⟩ := He.ba h63
  obtain ⟨a64, h65⟩ := He.ba h64
  obtain ⟨a65, h66⟩ := He.ba h65
  obtain ⟨a66, h67⟩ := He.ba h66
  obtain ⟨a67, h68⟩ := He.ba h67
  obtain ⟨a68, h69⟩ := He.ba h68
  obtain ⟨a69, h70⟩ := He.ba h69
  obtain ⟨a70, h71⟩ := He.ba h70
  obtain ⟨a71, h72⟩ := He.ba h71
  obtain ⟨a72, h73⟩ := He.ba h72
  have a73 := h73
  exact ⟨He.free_ok X G a0, He.free_ok X G a1, He.free_ok X G a2, He.free_ok X G a3, He.free_ok X G a4, He.free_ok X G a5, He.free_ok X G a6, He.free_ok X G a7, He.free_ok X G a8, He.free_ok X G a9, He.free_ok X G a10, He.free_ok X G a11, He.free_ok X G a12, He.free_ok X G a13, He.free_ok X G a14, He.free_ok X G a15, He.free_ok X G a16, He.free_ok X G a17, gloB_ok X G a18, gloB_ok X G a19, gloB_ok X G a20, gloB_ok X G a21, gloB_ok X G a22, gloB_ok X G a23, tabB_ok X G a24 (cT.tab 0), tabB_ok X G a25 (cT.tab 1), He.glo_ok X G a26, He.glo_ok X G a27, He.glo_ok X G a28, He.glo_ok X G a29, He.glo_ok X G a30, He.glo_ok X G a31, He.glo_ok X G a32, He.glo_ok X G a33, He.glo_ok X G a34, He.glo_ok X G a35, He.glo_ok X G a36, He.glo_ok X G a37, He.glo_ok X G a38, He.glo_ok X G a39, He.glo_ok X G a40, He.glo_ok X G a41, He.glo_ok X G a42, He.glo_ok X G a43, He.glo_ok X G a44, He.glo_ok X G a45, He.glo_ok X G a46, He.glo_ok X G a47, He.glo_ok X G a48, He.glo_ok X G a49, He.glo_ok X G a50, He.glo_ok X G a51, He.glo_ok X G a52, He.glo_ok X G a53, He.glo_ok X G a54, He.glo_ok X G a55, He.glo_ok X G a56, He.glo_ok X G a57, He.glo_ok X G a58, He.glo_ok X G a59, He.glo_ok X G a60, He.glo_ok X G a61, He.glo_ok X G a62, He.glo_ok X G a63, He.glo_ok X G a64, He.cls_ok a65, He.noat_ok a66, He.noat_ok a67, He.noat_ok a68, He.mkr_ok a69, He.meth_ok a70, He.meth_ok a71, He.meth_ok a72, isiB_ok a73, c.def_ 0, c.def_ 1, c.def_ 2, c.def_ 3, c.def_ 4, c.def_ 5, c.def_ 6, c.def_ 7, c.def_ 8, c.def_ 9, c.def_ 10, c.def_ 11, c.def_ 12, c.def_ 13, c.def_ 14, c.def_ 15, c.def_ 16, c.def_ 17, c.def_ 18, c.def_ 19, c.def_ 20, c.def_ 21, c.def_ 22, c.def_ 23, c.def_ 24, c.def_ 25, c.def_ 26, c.def_ 27, c.def_ 28, c.def_ 29, c.def_ 30, c.def_ 31, c.def_ 32, c.def_ 33, c.def_ 34, c.def_ 35, c.def_ 36, c.def_ 37, c.def_ 38, c.def_ 39, c.def_ 40, c.def_ 41⟩
abbrev R : PySem.W.OpenRow := PySem.W.OpenLaw.row PySem.Challenge.rw_closedinner_k17_whole_sets_made_by_words

abbrev hk : PySem.W.Hook := hookMT 6 ck fns tabs
def ob (s : PySem.W.SharedT) : AlMT := obsMTG 6 ck fns tabs (HandSHeadRun.getT s)
theorem ob_eq (s : PySem.W.SharedT) : ob s = hk.obs s.abs := obsMTG_eq (HandSHeadRun.getT_eq s)
end Law

section
namespace Law
open PySem PySem.Spec PyProof.Rows L2 Mir
def loose : List PySem.Str := (("_wall" : PySem.Str) :: ("WrongValue" : PySem.Str) :: ("InvalidText" : PySem.Str) :: ("InvalidKind" : PySem.Str) :: ("InvalidSet" : PySem.Str) :: ("NotASpace" : PySem.Str) :: ("WrongName" : PySem.Str) :: ("UnknownName" : PySem.Str) :: ("MOST_POINTS" : PySem.Str) :: ("DIGITS" : PySem.Str) :: ("LETTERS" : PySem.Str) :: ("LONGEST" : PySem.Str) :: ("is_name" : PySem.Str) :: ("KINDS" : PySem.Str) :: ("read_row" : PySem.Str) :: ("is_ordered" : PySem.Str) :: ("bits_of" : PySem.Str) :: ("read_space" : PySem.Str) :: ("is_seeing" : PySem.Str) :: ("indexes_of" : PySem.Str) :: ("closure_of" : PySem.Str) :: ("inside_of" : PySem.Str) :: ("all_bits" : PySem.Str) :: ("Space" : PySem.Str) :: ("names_of" : PySem.Str) :: ("check_space" : PySem.Str) :: ("check_point" : PySem.Str) :: ("is_set" : PySem.Str) :: ("check_set" : PySem.Str) :: ("check_kind" : PySem.Str) :: ("SIGNS" : PySem.Str) :: ("LAWS" : PySem.Str) :: ("TURNED" : PySem.Str) :: ("plain_word" : PySem.Str) :: ("shortened" : PySem.Str) :: ("key_of" : PySem.Str) :: ("words_up_to" : PySem.Str) :: ("shortest_by_key" : PySem.Str) :: ("all_words" : PySem.Str) :: ("made_bits" : PySem.Str) :: ("made_of" : PySem.Str) :: ("made" : PySem.Str) :: ("sorted_sets" : PySem.Str) :: ("_law_urn_of" : PySem.Str) :: ("_law_ladle" : PySem.Str) :: ("_law_pick" : PySem.Str) :: ("_law_drawn_near" : PySem.Str) :: ("_law_drawn_names" : PySem.Str) :: ("_law_written" : PySem.Str) :: ("_law_named" : PySem.Str) :: ("_law_shut" : PySem.Str) :: ("_law_rest" : PySem.Str) :: ("_law_within" : PySem.Str) :: ("_law_all_lots" : PySem.Str) :: ("_law_made" : PySem.Str) :: ("_law_right" : PySem.Str) :: [])
theorem tri {α β γ δ : Type} {o : Option α} {f : α → β} {g : α → γ} {h : α → δ} {x : β} {y : γ} {z : δ} (a : o.map f = some x) (b : o.map g = some y) (c : o.map h = some z) : o.map (fun s => (f s, g s, h s)) = some (x, y, z) := by
  cases o with
  | none => cases a
  | some s =>
    cases a
    cases b
    cases c
    rfl
section
open HandSHeadRun PySem.W PySem.Calls
def setW (w : World) (b : Bool) : World := { w with params := { w.params with followText := fun s => bif s == "special-get-raises" then b else w.params.followText s } }
theorem setW_eq {w : World} {b : Bool} (h : w.params.followText "special-get-raises" = b) : setW w b = w := by
  have e : (fun s => bif s == "special-get-raises" then b else w.params.followText s) = w.params.followText := by
    funext s
    by_cases e : s = "special-get-raises"
    · rw [e, h, show (("special-get-raises" : String) == "special-get-raises") = true from beq_self_eq_true _]
      rfl
    · rw [show (s == "special-get-raises") = false from beq_eq_false_iff_ne.mpr e]
      rfl
  unfold setW
  rw [e]
theorem run_a_true (w : World) (os : OsState) : (HandSHeadRun.endF (stepQ (denQ tabQ) R.prog (setW w true)) 7000 R.prog (setW w true) os).map (fun s => looksF R.prog (boot_heap (setW w true).params) s.abs) = some true := by kernel_rfl
theorem run_a_false (w : World) (os : OsState) : (HandSHeadRun.endF (stepQ (denQ tabQ) R.prog (setW w false)) 7000 R.prog (setW w false) os).map (fun s => looksF R.prog (boot_heap (setW w false).params) s.abs) = some true := by kernel_rfl
theorem run_a (w : World) (os : OsState) : (HandSHeadRun.endF (stepQ (denQ tabQ) R.prog w) 7000 R.prog w os).map (fun s => looksF R.prog (boot_heap w.params) s.abs) = some true := by
  cases h : w.params.followText "special-get-raises" with
  | true => have e := run_a_true w os; rw [setW_eq h] at e; exact e
  | false => have e := run_a_false w os; rw [setW_eq h] at e; exact e
theorem run_b_true (w : World) (os : OsState) : (HandSHeadRun.endF (stepQ (denQ tabQ) R.prog (setW w true)) 7000 R.prog (setW w true) os).map (fun s => seenQ (view R.prog [62]) loose (importedModules R.prog.main.body) (fun s => xlAt (view R.prog [62]) [] s && recOk R.toRowW.records s) s.abs) = some (openGood (view R.prog [62]) loose) := by kernel_rfl
theorem run_b_false (w : World) (os : OsState) : (HandSHeadRun.endF (stepQ (denQ tabQ) R.prog (setW w false)) 7000 R.prog (setW w false) os).map (fun s => seenQ (view R.prog [62]) loose (importedModules R.prog.main.body) (fun s => xlAt (view R.prog [62]) [] s && recOk R.toRowW.records s) s.abs) = some (openGood (view R.prog [62]) loose) := by kernel_rfl
theorem run_b (w : World) (os : OsState) : (HandSHeadRun.endF (stepQ (denQ tabQ) R.prog w) 7000 R.prog w os).map (fun s => seenQ (view R.prog [62]) loose (importedModules R.prog.main.body) (fun s => xlAt (view R.prog [62]) [] s && recOk R.toRowW.records s) s.abs) = some (openGood (view R.prog [62]) loose) := by
  cases h : w.params.followText "special-get-raises" with
  | true => have e := run_b_true w os; rw [setW_eq h] at e; exact e
  | false => have e := run_b_false w os; rw [setW_eq h] at e; exact e
theorem run_c_true (w : World) (os : OsState) : (HandSHeadRun.endF (stepQ (denQ tabQ) R.prog (setW w true)) 7000 R.prog (setW w true) os).map (fun s => ob s) = some (hk.val (setW w true)) := by kernel_rfl
theorem run_c_false (w : World) (os : OsState) : (HandSHeadRun.endF (stepQ (denQ tabQ) R.prog (setW w false)) 7000 R.prog (setW w false) os).map (fun s => ob s) = some (hk.val (setW w false)) := by kernel_rfl
theorem run_c (w : World) (os : OsState) : (HandSHeadRun.endF (stepQ (denQ tabQ) R.prog w) 7000 R.prog w os).map (fun s => ob s) = some (hk.val w) := by
  cases h : w.params.followText "special-get-raises" with
  | true => have e := run_c_true w os; rw [setW_eq h] at e; exact e
  | false => have e := run_c_false w os; rw [setW_eq h] at e; exact e
end
theorem run (w : World) : HandSHeadRun.RunEq R (PySem.W.view R.prog [62]) hk ob 7000 loose w := fun os => tri (run_a w os) (run_b w os) (run_c w os)
end Law
open PySem PySem.W PySem.Calls PyProof.Rows
theorem law_of (hm : ∀ ns : List Int, ns.length ≤ 63 → ∃ S', Law.m_law [.p (.scr (ns.map Mir.P.int))] [] = .ok (.p (.bl true)) S') : PySem.Challenge.rw_closedinner_k17_whole_sets_made_by_words.Holds := by
  w_on; o_law
  refine HandSHeadRun.head_any (r := OpenLaw.row PySem.Challenge.rw_closedinner_k17_whole_sets_made_by_words) (q := view (OpenLaw.row PySem.Challenge.rw_closedinner_k17_whole_sets_made_by_words).prog [62]) (H := Law.hk) (ob := Law.ob) (M := 7000) (loose := Law.loose) (d := HandSHeadRun.topDef (OpenLaw.row PySem.Challenge.rw_closedinner_k17_whole_sets_made_by_words).prog 62) (kwd := []) Law.ob_eq
    (by kernel_rfl) (fun s => by kernel_rfl) Law.run (by kernel_rfl) (by kernel_rfl) (by kernel_rfl) (by rfl) (by first | assumption | decide +kernel) (by decide +kernel) ⟨rfl, rfl, rfl, rfl, rfl, by decide +kernel⟩ ?hw ?hc
  case hw => w_witness2
  case hc =>
    refine Mir.walkG (l := PySem.Challenge.rw_closedinner_k17_whole_sets_made_by_words) (n := 63) (k := 7) (x := "_law_script") (m := Law.m_law) rfl (by decide) (by kernel_rfl) ⟨⟨rfl, by decide, by decide⟩, rfl⟩ ?F hm
    intro w mg fa h Y G hmg0
    obtain ⟨K, KX, c⟩ := Y
    have T := Law.tp_of KX G c
    have hmg : mg ("law" : PySem.Str) = some (.ref fa) := by
      have e : (HandSHeadRun.topDef (OpenLaw.row PySem.Challenge.rw_closedinner_k17_whole_sets_made_by_words).prog 62).name = ("law" : PySem.Str) := by kernel_rfl
      rw [← e]
      exact hmg0
    have e := hmg.symm.trans T.g_law
    cases e
    obtain ⟨fd, F⟩ := T.d_law
    have b := L2.FunD.bindsA (ps := ["_law_script"]) F fun _ _ _ _ _ _ us hl => match us, hl with | [_], _ => rfl
    refine ⟨K, fd, KX, fun s v => b s [v] rfl, fun base _ _ => ?_⟩
    obtain ⟨fd', F', _, _, hp⟩ := (Law.g_law (P := (PySem.Challenge.rw_closedinner_k17_whole_sets_made_by_words).prog) (w := w) (base := base) T).fn
    have e2 := (Mir.FunD.at_ F).symm.trans hp
    cases e2
    exact F'
end

namespace Pl
def row (rows : List (List Nat)) (k : Nat) : List Nat := rows.getD k []
def upd1 (k : Nat) (rows : List (List Nat)) (j : Nat) : List (List Nat) := rows.set k (row rows k ++ (row rows j).filter fun e => !(row rows k).contains e)
def stepK (rows : List (List Nat)) (k : Nat) : List (List Nat) := (row rows k).foldl (upd1 k) rows
def roundR (n : Nat) (rows : List (List Nat)) : List (List Nat) := (List.range n).foldl stepK rows
def closeR (n : Nat) : Nat → List (List Nat) → List (List Nat)
  | 0, rows => rows
  | t + 1, rows => closeR n t (roundR n rows)
structure Good (n : Nat) (rows : List (List Nat)) : Prop where
  len : rows.length = n
  rfl_ : ∀ k, k < n → k ∈ row rows k
  lt : ∀ k, k < n → ∀ e ∈ row rows k, e < n
  nd : ∀ k, k < n → (row rows k).Nodup
theorem row_set_self {rows : List (List Nat)} {k : Nat} {l : List Nat} (h : k < rows.length) : row (rows.set k l) k = l := by
  unfold row
  rw [List.getD_eq_getElem?_getD, List.getElem?_set_self h]
  rfl
theorem row_set_ne {rows : List (List Nat)} {k j : Nat} {l : List Nat} (h : k ≠ j) : row (rows.set k l) j = row rows j := by
  unfold row
  rw [List.getD_eq_getElem?_getD, List.getElem?_set_ne h, List.getD_eq_getElem?_getD]
def Sub (n : Nat) (a b : List (List Nat)) : Prop := ∀ i, i < n → ∀ e ∈ row a i, e ∈ row b i
theorem Sub.refl {n : Nat} {a : List (List Nat)} : Sub n a a := fun _ _ _ h => h
theorem Sub.trans {n : Nat} {a b c : List (List Nat)} (h : Sub n a b) (h' : Sub n b c) : Sub n a c := fun i hi e he => h' i hi e (h i hi e he)
def In_ (n : Nat) (rows : List (List Nat)) (T : Nat → Nat → Prop) : Prop := ∀ i, i < n → ∀ e ∈ row rows i, T i e
section
variable {n : Nat} {rows : List (List Nat)} {T : Nat → Nat → Prop}
theorem upd1_good (g : Good n rows) {k j : Nat} (hk : k < n) (hj : j < n) : Good n (upd1 k rows j) ∧ Sub n rows (upd1 k rows j) ∧ (∀ e ∈ row rows j, e ∈ row (upd1 k rows j) k) := by
  have hl : k < rows.length := by rw [g.len]; exact hk
  have e0 : row (upd1 k rows j) k = row rows k ++ (row rows j).filter fun e => !(row rows k).contains e := row_set_self hl
  have e1 : ∀ i, i ≠ k → row (upd1 k rows j) i = row rows i := fun i hi => row_set_ne (Ne.symm hi)
  refine ⟨⟨by unfold upd1; rw [List.length_set]; exact g.len, fun i hi => ?_, fun i hi e he => ?_, fun i hi => ?_⟩, fun i hi e he => ?_, fun e he => ?_⟩
  · by_cases q : i = k
    · subst q; rw [e0]; exact List.mem_append_left _ (g.rfl_ i hi)
    · rw [e1 i q]; exact g.rfl_ i hi
  · by_cases q : i = k
    · subst q
      rw [e0] at he
      rcases List.mem_append.mp he with z | z
      · exact g.lt i hi e z
      · exact g.lt j hj e (List.mem_filter.mp z).1
    · rw [e1 i q] at he; exact g.lt i hi e he
  · by_cases q : i = k
    · subst q
      rw [e0]
      refine List.nodup_append.mpr ⟨g.nd i hi, (g.nd j hj).filter _, fun a ha b hb hab => ?_⟩
      subst hab
      have := (List.mem_filter.mp hb).2
      simp [ha] at this
    · rw [e1 i q]; exact g.nd i hi
  · by_cases q : i = k
    · subst q; rw [e0]; exact List.mem_append_left _ he
    · rw [e1 i q]; exact he
  · rw [e0]
    by_cases q : e ∈ row rows k
    · exact List.mem_append_left _ q
    · exact List.mem_append_right _ (List.mem_filter.mpr ⟨he, by simp [q]⟩)
theorem upd1_in (ht : ∀ a b c, T a b → T b c → T a c) (g : Good n rows) (h : In_ n rows T) {k j : Nat} (hk : k < n) (hj : j ∈ row rows k) : In_ n (upd1 k rows j) T := by
  have hjn := g.lt k hk j hj
  intro i hi e he
  have hl : k < rows.length := by rw [g.len]; exact hk
  by_cases q : i = k
  · subst q
    rw [show row (upd1 i rows j) i = row rows i ++ (row rows j).filter fun e => !(row rows i).contains e from row_set_self hl] at he
    rcases List.mem_append.mp he with z | z
    · exact h i hi e z
    · exact ht i j e (h i hi j hj) (h j hjn e (List.mem_filter.mp z).1)
  · rw [show row (upd1 k rows j) i = row rows i from row_set_ne (Ne.symm q)] at he
    exact h i hi e he
theorem fold_upd (ht : ∀ a b c, T a b → T b c → T a c) {k : Nat} (hk : k < n) : ∀ (js : List Nat) {rows : List (List Nat)}, Good n rows → In_ n rows T → (∀ j ∈ js, j ∈ row rows k) →
    Good n (js.foldl (upd1 k) rows) ∧ Sub n rows (js.foldl (upd1 k) rows) ∧ In_ n (js.foldl (upd1 k) rows) T ∧ ∀ j ∈ js, ∀ e ∈ row rows j, e ∈ row (js.foldl (upd1 k) rows) k
  | [], rows, g, h, _ => ⟨g, Sub.refl, h, fun j hj => by cases hj⟩
  | j :: js, rows, g, h, hj => by
    have hjk := hj j List.mem_cons_self
    have hjn := g.lt k hk j hjk
    obtain ⟨g1, s1, m1⟩ := upd1_good g hk hjn
    have i1 := upd1_in ht g h hk hjk
    obtain ⟨g2, s2, i2, m2⟩ := fold_upd ht hk js g1 i1 fun i hi => s1 k hk i (hj i (List.mem_cons_of_mem _ hi))
    refine ⟨g2, s1.trans s2, i2, fun i hi e he => ?_⟩
    rcases List.mem_cons.mp hi with rfl | hi
    · exact s2 k hk e (m1 e he)
    · have hin := g.lt k hk i (hj i (List.mem_cons_of_mem _ hi))
      exact m2 i hi e (s1 i hin e he)
theorem stepK_ok (ht : ∀ a b c, T a b → T b c → T a c) (g : Good n rows) (h : In_ n rows T) {k : Nat} (hk : k < n) :
    Good n (stepK rows k) ∧ Sub n rows (stepK rows k) ∧ In_ n (stepK rows k) T ∧ ∀ j ∈ row rows k, ∀ e ∈ row rows j, e ∈ row (stepK rows k) k := fold_upd ht hk _ g h fun _ z => z
theorem fold_step (ht : ∀ a b c, T a b → T b c → T a c) : ∀ (ks : List Nat) {rows : List (List Nat)}, (∀ k ∈ ks, k < n) → Good n rows → In_ n rows T →
    Good n (ks.foldl stepK rows) ∧ Sub n rows (ks.foldl stepK rows) ∧ In_ n (ks.foldl stepK rows) T ∧ ∀ k ∈ ks, ∀ j ∈ row rows k, ∀ e ∈ row rows j, e ∈ row (ks.foldl stepK rows) k
  | [], rows, _, g, h => ⟨g, Sub.refl, h, fun j hj => by cases hj⟩
  | k :: ks, rows, hk, g, h => by
    have hkn := hk k List.mem_cons_self
    obtain ⟨g1, s1, i1, m1⟩ := stepK_ok ht g h hkn
    obtain ⟨g2, s2, i2, m2⟩ := fold_step ht ks (fun i hi => hk i (List.mem_cons_of_mem _ hi)) g1 i1
    refine ⟨g2, s1.trans s2, i2, fun i hi j hj e he => ?_⟩
    have hin := hk i hi
    have hjn := g.lt i hin j hj
    rcases List.mem_cons.mp hi with rfl | hi
    · exact s2 i hin e (m1 j hj e he)
    · exact m2 i hi j (s1 i hin j hj) e (s1 j hjn e he)
theorem round_ok (ht : ∀ a b c, T a b → T b c → T a c) (g : Good n rows) (h : In_ n rows T) :
    Good n (roundR n rows) ∧ Sub n rows (roundR n rows) ∧ In_ n (roundR n rows) T ∧ ∀ k, k < n → ∀ j ∈ row rows k, ∀ e ∈ row rows j, e ∈ row (roundR n rows) k := by
  obtain ⟨a, b, c, d⟩ := fold_step ht (List.range n) (fun k hk => List.mem_range.mp hk) g h
  exact ⟨a, b, c, fun k hk => d k (List.mem_range.mpr hk)⟩
end
def B (r : Nat → Nat → Bool) (n : Nat) : Nat → Nat → Nat → Bool
  | 0, i, m => i == m
  | t + 1, i, m => (List.range n).any fun a => B r n t i a && r a m
section
variable {r : Nat → Nat → Bool} {n : Nat}
theorem B_mono (hr : ∀ a, a < n → r a a = true) (hl : ∀ a b, r a b = true → b < n) {i m : Nat} : ∀ t, m < n → B r n t i m = true → B r n (t + 1) i m = true := fun t hm h => by
  unfold B
  rw [List.any_eq_true]
  exact ⟨m, List.mem_range.mpr hm, by rw [h, hr m hm]; rfl⟩
theorem B_lt (hl : ∀ a b, r a b = true → b < n) {i m : Nat} (hi : i < n) : ∀ t, B r n t i m = true → m < n
  | 0, h => by
    have h : (i == m) = true := h
    rw [beq_iff_eq] at h
    rw [← h]; exact hi
  | t + 1, h => by
    unfold B at h
    rw [List.any_eq_true] at h
    obtain ⟨a, _, ha⟩ := h
    rw [Bool.and_eq_true] at ha
    exact hl a m ha.2
theorem count_lt {p q : Nat → Bool} : ∀ {l : List Nat}, (∀ x ∈ l, p x = true → q x = true) → (∃ x ∈ l, q x = true ∧ p x = false) → l.countP p < l.countP q
  | [], _, ⟨x, hx, _⟩ => by cases hx
  | y :: l, h, ⟨x, hx, h1, h2⟩ => by
    have le : l.countP p ≤ l.countP q := List.countP_mono_left fun z hz => h z (List.mem_cons_of_mem _ hz)
    rw [List.countP_cons, List.countP_cons]
    rcases List.mem_cons.mp hx with rfl | hx
    · rw [if_neg (by rw [h2]; decide), if_pos h1]; omega
    · have ih := count_lt (fun z hz => h z (List.mem_cons_of_mem _ hz)) ⟨x, hx, h1, h2⟩
      by_cases hp : p y = true
      · rw [if_pos hp, if_pos (h y List.mem_cons_self hp)]; omega
      · rw [if_neg hp]; omega
theorem B_stable (hr : ∀ a, a < n → r a a = true) (hl : ∀ a b, r a b = true → b < n) {i : Nat} (hi : i < n) : ∃ t, t ≤ n ∧ ∀ m, m < n → B r n (t + 1) i m = true → B r n t i m = true := by
  have key : ∀ t, (∃ s, s ≤ t ∧ ∀ m, m < n → B r n (s + 1) i m = true → B r n s i m = true) ∨ t < (List.range n).countP (B r n t i) := by
    intro t
    induction t with
    | zero =>
      refine .inr ?_
      have : 0 < (List.range n).countP (B r n 0 i) := List.countP_pos_iff.mpr ⟨i, List.mem_range.mpr hi, by show (i == i) = true; simp⟩
      exact this
    | succ t ih =>
      rcases ih with ⟨s, hs, h⟩ | ih
      · exact .inl ⟨s, by omega, h⟩
      · by_cases q : ∃ x ∈ List.range n, B r n (t + 1) i x = true ∧ B r n t i x = false
        · refine .inr ?_
          have := count_lt (p := B r n t i) (q := B r n (t + 1) i) (l := List.range n) (fun x hx h => B_mono hr hl t (List.mem_range.mp hx) h) q
          omega
        · refine .inl ⟨t, by omega, fun m hm h => ?_⟩
          cases z : B r n t i m with
          | true => rfl
          | false => exact absurd ⟨m, List.mem_range.mpr hm, h, z⟩ q
  rcases key n with ⟨s, hs, h⟩ | h
  · exact ⟨s, hs, h⟩
  · have := List.countP_le_length (p := B r n n i) (l := List.range n)
    rw [List.length_range] at this
    omega
theorem B_up (hr : ∀ a, a < n → r a a = true) (hl : ∀ a b, r a b = true → b < n) {i m : Nat} (hm : m < n) {s t : Nat} (h : s ≤ t) (hb : B r n s i m = true) : B r n t i m = true := by
  induction t with
  | zero =>
    have : s = 0 := by omega
    subst this; exact hb
  | succ t ih =>
    by_cases q : s = t + 1
    · subst q; exact hb
    · exact B_mono hr hl t hm (ih (by omega))
theorem B_all (hr : ∀ a, a < n → r a a = true) (hl : ∀ a b, r a b = true → b < n) {i : Nat} (hi : i < n) : ∀ (t m : Nat), m < n → B r n t i m = true → B r n n i m = true := by
  obtain ⟨s, hs, h⟩ := B_stable hr hl hi
  have st : ∀ t m, m < n → B r n t i m = true → B r n s i m = true := by
    intro t
    induction t with
    | zero => exact fun m hm hb => B_up hr hl hm (Nat.zero_le _) hb
    | succ t ih =>
      intro m hm hb
      have hb' := hb
      unfold B at hb'
      rw [List.any_eq_true] at hb'
      obtain ⟨a, ha, hab⟩ := hb'
      rw [Bool.and_eq_true] at hab
      have han := List.mem_range.mp ha
      have h1 := ih a han hab.1
      refine h m hm ?_
      unfold B
      rw [List.any_eq_true]
      exact ⟨a, ha, by rw [h1, hab.2]; rfl⟩
  exact fun t m hm hb => B_up hr hl hm hs (st t m hm hb)
theorem B_trans (hl : ∀ a b, r a b = true → b < n) {i j m : Nat} (hj : j < n) : ∀ (s t : Nat), B r n s i j = true → B r n t j m = true → B r n (s + t) i m = true := by
  intro s t
  induction t generalizing m with
  | zero =>
    intro h1 h2
    have h2 : (j == m) = true := h2
    rw [beq_iff_eq] at h2
    subst h2; exact h1
  | succ t ih =>
    intro h1 h2
    unfold B at h2
    rw [List.any_eq_true] at h2
    obtain ⟨a, ha, hab⟩ := h2
    rw [Bool.and_eq_true] at hab
    show B r n (s + t + 1) i m = true
    unfold B
    rw [List.any_eq_true]
    exact ⟨a, ha, by rw [ih h1 hab.1, hab.2]; rfl⟩
end
def Trans (n : Nat) (rows : List (List Nat)) : Prop := ∀ i, i < n → ∀ j ∈ row rows i, ∀ e ∈ row rows j, e ∈ row rows i
theorem close_ok {n : Nat} {rows : List (List Nat)} (g : Good n rows) : Good n (closeR n n rows) ∧ Trans n (closeR n n rows) := by
  let r : Nat → Nat → Bool := fun a b => decide (a < n) && (row rows a).contains b
  have rmem : ∀ a b, r a b = true ↔ a < n ∧ b ∈ row rows a := fun a b => by
    show (decide (a < n) && (row rows a).contains b) = true ↔ _
    rw [Bool.and_eq_true, decide_eq_true_eq, List.contains_iff_mem]
  have hr : ∀ a, a < n → r a a = true := fun a ha => (rmem a a).mpr ⟨ha, g.rfl_ a ha⟩
  have hl : ∀ a b, r a b = true → b < n := fun a b h => by
    obtain ⟨h1, h2⟩ := (rmem a b).mp h
    exact g.lt a h1 b h2
  let T : Nat → Nat → Prop := fun a b => a < n → ∃ t, B r n t a b = true
  have ht : ∀ a b c, T a b → T b c → T a c := fun a b c h1 h2 ha => by
    obtain ⟨s, hs⟩ := h1 ha
    have hb := B_lt hl ha s hs
    obtain ⟨t, ht⟩ := h2 hb
    exact ⟨s + t, B_trans hl hb s t hs ht⟩
  have i0 : In_ n rows T := fun i hi e he _ => by
    refine ⟨1, ?_⟩
    unfold B
    rw [List.any_eq_true]
    refine ⟨i, List.mem_range.mpr hi, ?_⟩
    rw [show B r n 0 i i = true by show (i == i) = true; simp, (rmem i e).mpr ⟨hi, he⟩]
    rfl
  -- after t more rounds, all within s + t steps
  have key : ∀ (t s : Nat) (w : List (List Nat)), Good n w → In_ n w T → Sub n rows w → (∀ i, i < n → ∀ m, B r n s i m = true → m ∈ row w i) → Good n (closeR n t w) ∧ In_ n (closeR n t w) T ∧ ∀ i, i < n → ∀ m, B r n (s + t) i m = true → m ∈ row (closeR n t w) i := by
    intro t
    induction t with
    | zero => exact fun s w gw iw sw h => ⟨gw, iw, h⟩
    | succ t ih =>
      intro s w gw iw sw h
      obtain ⟨g1, s1, i1, m1⟩ := round_ok ht gw iw
      have h1 : ∀ i, i < n → ∀ m, B r n (s + 1) i m = true → m ∈ row (roundR n w) i := fun i hi m hb => by
        unfold B at hb
        rw [List.any_eq_true] at hb
        obtain ⟨a, ha, hab⟩ := hb
        rw [Bool.and_eq_true] at hab
        obtain ⟨han, ham⟩ := (rmem a m).mp hab.2
        exact m1 i hi a (h i hi a hab.1) m (sw a han m ham)
      obtain ⟨a, b, c⟩ := ih (s + 1) (roundR n w) g1 i1 (sw.trans s1) h1
      exact ⟨a, b, fun i hi m hb => c i hi m (by rw [show s + 1 + t = s + (t + 1) by omega]; exact hb)⟩
  obtain ⟨g2, i2, m2⟩ := key n 0 rows g i0 Sub.refl fun i hi m hb => by
    have hb : (i == m) = true := hb
    rw [beq_iff_eq] at hb
    rw [← hb]; exact g.rfl_ i hi
  refine ⟨g2, fun i hi j hj e he => ?_⟩
  have hjn := g2.lt i hi j hj
  have hen := g2.lt j hjn e he
  obtain ⟨s, hs⟩ := i2 i hi j hj hi
  obtain ⟨t, ht'⟩ := i2 j hjn e he hjn
  have := B_all hr hl hi (s + t) e hen (B_trans hl hjn s t hs ht')
  exact m2 i hi e (by rw [Nat.zero_add]; exact this)
end Pl
namespace Pl
theorem nodup_len : ∀ (n : Nat) (l : List Nat), l.Nodup → (∀ e ∈ l, e < n) → l.length ≤ n
  | 0, l, _, h => by
    cases l with
    | nil => exact Nat.le_refl _
    | cons a l => exact absurd (h a List.mem_cons_self) (by omega)
  | n + 1, l, nd, h => by
    by_cases q : n ∈ l
    · have ih := nodup_len n (l.erase n) (nd.erase n) fun e he => by
        have := (nd.mem_erase_iff).mp he
        have h2 := h e this.2
        have h3 := this.1
        omega
      rw [List.length_erase_of_mem q] at ih
      have : 0 < l.length := List.length_pos_of_mem q
      omega
    · have ih := nodup_len n l nd fun e he => by
        have h2 := h e he
        have : e ≠ n := fun z => q (by rw [← z]; exact he)
        omega
      omega
theorem Good.rlen {n : Nat} {rows : List (List Nat)} (g : Good n rows) {k : Nat} (hk : k < n) : (row rows k).length ≤ n := nodup_len n _ (g.nd k hk) (g.lt k hk)
theorem row_range {n k : Nat} (hk : k < n) : row ((List.range n).map fun i => [i]) k = [k] := by
  unfold row
  rw [List.getD_eq_getElem?_getD, List.getElem?_map, List.getElem?_range hk]
  rfl
theorem good0 (n : Nat) : Good n ((List.range n).map fun i => [i]) :=
  ⟨by rw [List.length_map, List.length_range], fun k hk => by rw [row_range hk]; exact List.mem_singleton.mpr rfl, fun k hk e he => by
    rw [row_range hk] at he
    rw [List.mem_singleton.mp he]; exact hk, fun k hk => by rw [row_range hk]; simp⟩
theorem good_app {n : Nat} {rows : List (List Nat)} (g : Good n rows) {k j : Nat} (hk : k < n) (hj : j < n) (hn : j ∉ row rows k) : Good n (rows.set k (row rows k ++ [j])) := by
  have hl : k < rows.length := by rw [g.len]; exact hk
  refine ⟨by rw [List.length_set]; exact g.len, fun i hi => ?_, fun i hi e he => ?_, fun i hi => ?_⟩
  · by_cases q : i = k
    · subst q; rw [row_set_self hl]; exact List.mem_append_left _ (g.rfl_ i hi)
    · rw [row_set_ne (Ne.symm q)]; exact g.rfl_ i hi
  · by_cases q : i = k
    · subst q
      rw [row_set_self hl] at he
      rcases List.mem_append.mp he with z | z
      · exact g.lt i hi e z
      · rw [List.mem_singleton.mp z]; exact hj
    · rw [row_set_ne (Ne.symm q)] at he; exact g.lt i hi e he
  · by_cases q : i = k
    · subst q
      rw [row_set_self hl]
      refine List.nodup_append.mpr ⟨g.nd i hi, by simp, fun a ha b hb hab => ?_⟩
      rw [List.mem_singleton.mp hb] at hab
      subst hab
      exact hn ha
    · rw [row_set_ne (Ne.symm q)]; exact g.nd i hi
end Pl

namespace Mir
open L2
@[simp] theorem bind_ok {A B : Type} (a : A) (S : Sto) (f : A → Sto → Res B) : (Res.ok a S).bind f = f a S := rfl
@[simp] theorem bind_bad {A B : Type} (f : A → Sto → Res B) : (Res.bad : Res A).bind f = .bad := rfl
@[simp] theorem go_ok {A : Type} (a : A) (S : Sto) (ρ : En) (f : A → Sto → RF) : (Res.ok a S).go ρ f = f a S := rfl
@[simp] theorem nox_ok {A : Type} (a : A) (S : Sto) : (Res.ok a S).nox = .ok a S := rfl
@[simp] theorem thn_nx (ρ : En) (S : Sto) (b : MS) : (RF.ok (.nx ρ) S).thn b = b ρ S := rfl
@[simp] theorem thn_rt (d : Vl) (S : Sto) (b : MS) : (RF.ok (.rt d) S).thn b = .ok (.rt d) S := rfl
@[simp] theorem rd_p (S : Sto) (x : P) : rd S (.p x) = some x := rfl
@[simp] theorem nv_p (S : Sto) (x : P) : nv S (.p x) = .p x := rfl
theorem rd_lst {S : Sto} {k : Nat} {xs : List P} (h : S[k]? = some (.lst xs)) : rd S (.c k) = some (.lst xs) := by
  unfold rd
  dsimp only
  rw [h]
theorem nv_lst {S : Sto} {k : Nat} {xs : List P} (h : S[k]? = some (.lst xs)) : nv S (.c k) = .c k := by
  unfold nv
  dsimp only
  rw [h]
theorem nv_lsv {S : Sto} {k : Nat} {xs : List Vl} (h : S[k]? = some (.lsv xs)) : nv S (.c k) = .c k := by
  unfold nv
  dsimp only
  rw [h]
theorem rd_fz {S : Sto} {k : Nat} {x : P} (h : S[k]? = some (.fz x)) : rd S (.c k) = some x := by
  unfold rd
  dsimp only
  rw [h]
theorem nv_fz {S : Sto} {k : Nat} {x : P} (h : S[k]? = some (.fz x)) : nv S (.c k) = .p x := by
  unfold nv
  dsimp only
  rw [h]
theorem isL_lst {S : Sto} {k : Nat} {xs : List P} (h : S[k]? = some (.lst xs)) : isL S (.c k) = true := by
  unfold isL
  dsimp only
  rw [h]
def ofO (o : Option P) (S : Sto) : Res Vl := match o with
  | some z => .ok (.p z) S
  | none => .bad
@[simp] theorem ofO_some (z : P) (S : Sto) : ofO (some z) S = .ok (.p z) S := rfl
@[simp] theorem op1_p (f : P → Option P) (x : P) (S : Sto) : op1 f (.p x) S = ofO (f x) S := rfl
@[simp] theorem op2_pp (f : P → P → Option P) (x y : P) (S : Sto) : op2 f (.p x) (.p y) S = ofO (f x y) S := rfl
theorem op2_rd {f : P → P → Option P} {d e : Vl} {x y : P} {S : Sto} (h1 : rd S d = some x) (h2 : rd S e = some y) : op2 f d e S = ofO (f x y) S := by
  unfold op2
  rw [h1, h2]
  rfl
theorem op1_rd {f : P → Option P} {d : Vl} {x : P} {S : Sto} (h1 : rd S d = some x) : op1 f d S = ofO (f x) S := by
  unfold op1
  rw [h1]
  rfl
@[simp] theorem rds_nil (S : Sto) : rds S [] = some [] := rfl
@[simp] theorem rds_p (S : Sto) (x : P) (ds : List Vl) : rds S (.p x :: ds) = (rds S ds).bind fun xs => some (x :: xs) := rfl
theorem rds_rd {S : Sto} {d : Vl} {x : P} {ds : List Vl} (h : rd S d = some x) : rds S (d :: ds) = (rds S ds).bind fun xs => some (x :: xs) := by
  show ((rd S d).bind fun x => (rds S ds).bind fun xs => some (x :: xs)) = _
  rw [h]
  rfl
@[simp] theorem call1_eq (f : List P → Option P) (ds : List Vl) (S : Sto) : call1 f ds S = (match rds S ds with
  | some xs => ofO (f xs) S
  | none => .bad) := rfl
section
variable (ρ : En) (S : Sto) (a b c : ME) (t u : MT) (m r : MA) (s s' : MS)
@[simp] theorem eVar_0 (d : Vl) : eVar 0 (some d :: ρ) S = .ok d S := rfl
@[simp] theorem eVar_s (i : Nat) (x : Option Vl) : eVar (i + 1) (x :: ρ) S = eVar i ρ S := by
  unfold eVar
  rw [List.getElem?_cons_succ]
@[simp] theorem eC_eq (x : P) : eC x ρ S = .ok (.p x) S := rfl
@[simp] theorem eBin_eq (f : P → P → Option P) : eBin f a b ρ S = (a ρ S).bind fun x S1 => (b ρ S1).bind fun y S2 => op2 f x y S2 := rfl
@[simp] theorem eUn_eq (f : P → Option P) : eUn f a ρ S = (a ρ S).bind fun x S1 => op1 f x S1 := rfl
@[simp] theorem eItem_eq : eItem a b ρ S = (a ρ S).bind fun d S1 => (b ρ S1).bind fun i S2 => ixV (nv S2 d) i S2 := rfl
@[simp] theorem eCall_eq (f : List P → Option P) : eCall f m ρ S = (m ρ S).bind fun ds S1 => call1 f ds S1 := rfl
@[simp] theorem eFn_eq (f : MF) : eFn f m ρ S = (m ρ S).bind f := rfl
@[simp] theorem aNil_eq : aNil ρ S = .ok [] S := rfl
@[simp] theorem aCons_eq : aCons a m ρ S = (a ρ S).bind fun x S1 => (m ρ S1).bind fun xs S2 => .ok (x :: xs) S2 := rfl
@[simp] theorem tst_bl (b : Bool) : tst (.p (.bl b)) S = .ok b S := rfl
@[simp] theorem tVal_eq : tVal a ρ S = (a ρ S).bind tst := rfl
@[simp] theorem tAnd_eq : tAndM t u ρ S = (t ρ S).bind fun x S1 => match x with
  | true => u ρ S1
  | false => .ok false S1 := rfl
@[simp] theorem tOr_eq : tOrM t u ρ S = (t ρ S).bind fun x S1 => match x with
  | true => .ok true S1
  | false => u ρ S1 := rfl
@[simp] theorem tNot_eq : tNotM t ρ S = (t ρ S).bind fun x S1 => .ok (!x) S1 := rfl
@[simp] theorem eAnd_eq : eAndM a b ρ S = (a ρ S).bind fun x S1 => (tst x S1).bind fun c S2 => match c with
  | true => b ρ S2
  | false => .ok (.p (.bl false)) S2 := rfl
@[simp] theorem eOr_eq : eOrM a b ρ S = (a ρ S).bind fun x S1 => (tst x S1).bind fun c S2 => match c with
  | true => .ok (.p (.bl true)) S2
  | false => b ρ S2 := rfl
@[simp] theorem eNot_eq : eNotM a ρ S = (a ρ S).bind fun x S1 => (tst x S1).bind fun c S2 => .ok (.p (.bl (!c))) S2 := rfl
@[simp] theorem eIf_eq : eIfM t a b ρ S = (t ρ S).bind fun x S1 => match x with
  | true => a ρ S1
  | false => b ρ S1 := rfl
@[simp] theorem eIsN_eq : eIsN a ρ S = (a ρ S).bind fun x S1 => .ok (.p (.bl (isN x))) S1 := rfl
@[simp] theorem eNotN_eq : eNotN a ρ S = (a ρ S).bind fun x S1 => .ok (.p (.bl (!isN x))) S1 := rfl
@[simp] theorem eTup_eq : eTup m ρ S = (m ρ S).bind fun xs S1 => (frzs xs S1).bind fun ys S2 => if ys.length ≤ 100000 then .ok (.p (.tup ys)) S2 else .bad := rfl
@[simp] theorem eLst_eq : eLst m ρ S = (m ρ S).bind fun xs S1 => (frzs xs S1).bind fun ys S2 => if ys.length ≤ 100000 then .ok (.p (.lst ys)) S2 else .bad := rfl
@[simp] theorem eLstC_eq : eLstC m ρ S = (m ρ S).bind fun xs S1 => (frzs xs S1).bind fun ys S2 => if ys.length ≤ 100000 then .ok (.c S2.length) (S2 ++ [.lst ys]) else .bad := rfl
@[simp] theorem frzs_nil : frzs [] S = .ok [] S := rfl
@[simp] theorem frzs_cons (d : Vl) (ds : List Vl) : frzs (d :: ds) S = (frz d S).bind fun y S1 => (frzs ds S1).bind fun ys S2 => .ok (y :: ys) S2 := rfl
@[simp] theorem eMthT_p (T : String) (f : P → List P → Option P) : eMthT T f a m ρ S = (a ρ S).bind fun d S1 => match rd S1 d with
  | some x => if tyP T x then (m ρ S1).bind fun ds S2 => call1 (fun xs => match xs with
    | x :: r => f x r
    | [] => none) (d :: ds) S2 else .bad
  | none => .bad := rfl
@[simp] theorem eMut_eq (g : Sto → Vl → Bool) (f : FM) : eMut g f a m ρ S = (a ρ S).bind fun d S1 => if g S1 d then (m ρ S1).bind fun ds S2 => f d ds S2 else .bad := rfl
@[simp] theorem sSeq_eq : sSeq s s' ρ S = (s ρ S).thn s' := rfl
@[simp] theorem sPass_eq : sPass ρ S = .ok (.nx ρ) S := rfl
@[simp] theorem sExpr_eq : sExpr a ρ S = (a ρ S).go ρ fun _ S1 => .ok (.nx ρ) S1 := rfl
@[simp] theorem sRet_eq : sRet a ρ S = (a ρ S).go ρ fun d S1 => .ok (.rt d) S1 := rfl
@[simp] theorem sIf_eq : sIf t s s' ρ S = (t ρ S).go ρ fun c S1 => match c with
  | true => s ρ S1
  | false => s' ρ S1 := rfl
@[simp] theorem sAsg_eq (g : MG) : sAsg a g ρ S = (a ρ S).go ρ fun d S1 => ((g d ρ S1).nox).go ρ fun ρ1 S2 => .ok (.nx ρ1) S2 := rfl
@[simp] theorem sPar_eq (i j : Nat) : sPar i j m ρ S = (m ρ S).go ρ fun ds S1 => match ds with
  | [d, d2] => .ok (.nx ((ρ.set i (some d)).set j (some d2))) S1
  | _ => .bad := rfl
@[simp] theorem sPar3_eq (i j l : Nat) : sPar3 i j l m ρ S = (m ρ S).go ρ fun ds S1 => match ds with
  | [d, d2, d3] => .ok (.nx (((ρ.set i (some d)).set j (some d2)).set l (some d3))) S1
  | _ => .bad := rfl
@[simp] theorem sParG_eq (n : Nat) (g : MGs) : sParG n m g ρ S = (m ρ S).go ρ fun ds S1 => if ds.length = n ∧ n ≤ 100000 then ((g ds ρ S1).nox).go ρ fun ρ1 S2 => .ok (.nx ρ1) S2 else .bad := rfl
@[simp] theorem gNm_eq (i : Nat) (d : Vl) : gNm i d ρ S = .ok (ρ.set i (some d)) S := rfl
@[simp] theorem gNl_eq : gNl [] ρ S = .ok ρ S := rfl
@[simp] theorem gCn_eq (g : MG) (r : MGs) (d : Vl) (ds : List Vl) : gCn g r (d :: ds) ρ S = (g d ρ S).nox.bind fun ρ1 S1 => r ds ρ1 S1 := rfl
@[simp] theorem gTp_eq (n : Nat) (r : MGs) (xs : List P) : gTp n r (.p (.tup xs)) ρ S = if xs.length = n then r (xs.map Vl.p) ρ S else .bad := rfl
@[simp] theorem gSub_eq (d : Vl) : gSubM a b d ρ S = (a ρ S).nox.bind fun o S1 => (b ρ S1).nox.bind fun i S2 => (setV o i d S2).bind fun _ S3 => .ok ρ S3 := rfl
@[simp] theorem gFld_eq (c f : PySem.Str) (d : Vl) : gFldM c f a d ρ S = (a ρ S).nox.bind fun o S1 => (fSet c f o d S1).bind fun _ S2 => .ok ρ S2 := rfl
@[simp] theorem sFor_eq (it : MI) (g : MG) : sFor it g s ρ S = (it ρ S).go ρ fun xs S1 => forGo g s xs ρ S1 := rfl
@[simp] theorem itOf_eq : itOf a ρ S = (a ρ S).bind fun d S1 => (frz d S1).bind fun x S2 => match itemsP x with
  | some xs => .ok xs S2
  | none => .bad := rfl
@[simp] theorem eSl_eq (l h : En → Sto → Res (Option Int)) : eSl a l h ρ S = (a ρ S).bind fun d S1 => (l ρ S1).bind fun lo S2 => (h ρ S2).bind fun hi S3 => op1 (pSl lo hi) d S3 := rfl
@[simp] theorem oNo_eq : oNo ρ S = .ok none S := rfl
@[simp] theorem oYes_eq : oYes a ρ S = (a ρ S).bind intV := rfl
@[simp] theorem intV_int (i : Int) : intV (.p (.int i)) S = .ok (some i) S := rfl
@[simp] theorem eFld_eq (c f : PySem.Str) : eFld c f a ρ S = (a ρ S).bind fun d S1 => fldV c f (nv S1 d) S1 := rfl
@[simp] theorem eProp_eq (c : PySem.Str) (f : MF) : eProp c f a ρ S = (a ρ S).bind fun d S1 => if isC c S1 (nv S1 d) then (f [d] S1).nox else .bad := rfl
@[simp] theorem eMeth_eq (c f : PySem.Str) (g : MF) : eMeth c f g a m ρ S = (a ρ S).bind fun d S1 => if isO c f S1 (nv S1 d) then (m ρ S1).bind fun ds S2 => g (d :: ds) S2 else .bad := rfl
@[simp] theorem eMake_eq (kp : Bool) (c : PySem.Str) (g : MF) : eMake kp c g m ρ S = (m ρ S).bind fun ds S1 => mkO kp c g ds S1 := rfl
end
@[simp] theorem ixV_p (x : P) (i : Vl) (S : Sto) : ixV (.p x) i S = op2 pIx (.p x) i S := by
  cases i <;> rfl
theorem ixV_lst {S : Sto} {k : Nat} {xs : List P} {j : Int} (h : S[k]? = some (.lst xs)) : ixV (.c k) (.p (.int j)) S = ofO (atI xs j) S := by
  unfold ixV
  dsimp only
  rw [h]
  show op2 pIx (.c k) (.p (.int j)) S = _
  rw [op2_rd (rd_lst h) (rd_p _ _)]
  rfl
@[simp] theorem pIB_int (g : Int → Int → Bool) (i j : Int) : pIB g (.int i) (.int j) = some (.bl (g i j)) := rfl
@[simp] theorem pI_int (g : Int → Int → Int) (i j : Int) : pI g (.int i) (.int j) = some (.int (g i j)) := rfl
@[simp] theorem pIC_int (C : Int → Int → Bool) (g : Int → Int → Int) (i j : Int) : pIC C g (.int i) (.int j) = if C i j then some (.int (g i j)) else none := rfl
@[simp] theorem pAdd_int (i j : Int) : pAdd (.int i) (.int j) = some (.int (i + j)) := rfl
@[simp] theorem pAdd_str (x y : List Nat) : pAdd (.str x) (.str y) = if x.length + y.length ≤ 100000 then some (.str (x ++ y)) else none := rfl
@[simp] theorem pAdd_lst (x y : List P) : pAdd (.lst x) (.lst y) = if x.length + y.length ≤ 100000 then some (.lst (x ++ y)) else none := rfl
@[simp] theorem pAdd_tup (x y : List P) : pAdd (.tup x) (.tup y) = if x.length + y.length ≤ 100000 then some (.tup (x ++ y)) else none := rfl
@[simp] theorem pMul_int (i j : Int) : pMul (.int i) (.int j) = if bMul i j then some (.int (i * j)) else none := rfl
@[simp] theorem pInt_int (i : Int) : pInt [.int i] = some (.int i) := rfl
@[simp] theorem pAbs_int (i : Int) : pAbs [.int i] = some (.int (if i < 0 then -i else i)) := rfl
@[simp] theorem pDivmod_int (i j : Int) : pDivmod [.int i, .int j] = if bDiv i j then some (.tup [.int (i / j), .int (i % j)]) else none := rfl
@[simp] theorem pLen_lst (xs : List P) : pLen [.lst xs] = some (.int xs.length) := rfl
@[simp] theorem pLen_scr (xs : List P) : pLen [.scr xs] = some (.int xs.length) := rfl
@[simp] theorem pLen_tup (xs : List P) : pLen [.tup xs] = some (.int xs.length) := rfl
@[simp] theorem pLen_str (x : List Nat) : pLen [.str x] = if x.length ≤ 100000 then some (.int x.length) else none := rfl
@[simp] theorem pTuple_lst (xs : List P) : pTuple [.lst xs] = some (.tup xs) := rfl
@[simp] theorem pTuple_tup (xs : List P) : pTuple [.tup xs] = some (.tup xs) := rfl
@[simp] theorem pList_lst (xs : List P) : pList [.lst xs] = some (.lst xs) := rfl
@[simp] theorem pIx_lst (xs : List P) (i : Int) : pIx (.lst xs) (.int i) = atI xs i := rfl
@[simp] theorem pIx_scr (xs : List P) (i : Int) : pIx (.scr xs) (.int i) = atI xs i := rfl
@[simp] theorem pIx_tup (xs : List P) (i : Int) : pIx (.tup xs) (.int i) = atI xs i := rfl
@[simp] theorem itemsP_lst (xs : List P) : itemsP (.lst xs) = some xs := rfl
@[simp] theorem itemsP_tup (xs : List P) : itemsP (.tup xs) = some xs := rfl
@[simp] theorem itemsP_str (x : List Nat) : itemsP (.str x) = some (x.map fun c => .str [c]) := rfl
theorem bMul_l {i j : Int} (h : -(2 ^ 64) < i) (h' : i < 2 ^ 64) : bMul i j = true := by
  unfold bMul
  rw [decide_eq_true h, decide_eq_true h']
  rfl
theorem bMul_r {i j : Int} (h : -(2 ^ 64) < j) (h' : j < 2 ^ 64) : bMul i j = true := by
  unfold bMul
  rw [decide_eq_true h, decide_eq_true h']
  simp
theorem bDiv_of {i j : Int} (h : 0 < j) (h' : j < 1073741824) : bDiv i j = true := by
  unfold bDiv
  rw [decide_eq_true h, decide_eq_true h']
  rfl
theorem bMod_of {i j : Int} (h : 0 < j) : bMod i j = true := decide_eq_true h
theorem atN {A : Type} {xs : List A} {i : Nat} {x : A} (h : xs[i]? = some x) : atI xs (i : Int) = some x := by
  have hl := (List.getElem?_eq_some_iff.mp h).1
  unfold atI ixN
  rw [if_pos (by omega), if_pos (by omega)]
  exact h
@[simp] theorem atI_0 {A : Type} (x : A) (xs : List A) : atI (x :: xs) 0 = some x := atN (i := 0) rfl
@[simp] theorem atI_1 {A : Type} (x y : A) (xs : List A) : atI (x :: y :: xs) 1 = some y := atN (i := 1) rfl
@[simp] theorem atI_2 {A : Type} (x y z : A) (xs : List A) : atI (x :: y :: z :: xs) 2 = some z := atN (i := 2) rfl
theorem get_set_self {S : Sto} {k : Nat} {c c' : Cell} (h : S[k]? = some c) : (S.set k c')[k]? = some c' := by
  rw [List.getElem?_set_self (List.getElem?_eq_some_iff.mp h).1]
theorem get_set_ne {S : Sto} {k j : Nat} {c' : Cell} (h : k ≠ j) : (S.set k c')[j]? = S[j]? := List.getElem?_set_ne h
theorem setV_lst {S : Sto} {k n : Nat} {xs : List P} {j : Int} {x : P} (h : S[k]? = some (.lst xs)) (hj : ixN xs.length j = some n) : setV (.c k) (.p (.int j)) (.p x) S = .ok () (S.set k (.lst (xs.set n x))) := by
  unfold setV
  dsimp only
  rw [h]
  dsimp only
  rw [frz_p, bind_ok, h]
  dsimp only
  rw [hj]
end Mir
namespace Mir
open L2
@[simp] theorem endF_p (n : Nat) (x : P) (S : Sto) : endF n (.ok (.rt (.p x)) S) = .ok (.p x) (S.take n) := rfl
@[simp] theorem endF_nx (n : Nat) (ρ : En) (S : Sto) : endF n (.ok (.nx ρ) S) = .ok (.p .non) (S.take n) := rfl
theorem take_len {S S' : Sto} (h : S'.length = S.length) : S'.take S.length = S' := List.take_of_length_le (by omega)
@[simp] theorem take_self (S : Sto) : S.take S.length = S := List.take_of_length_le (Nat.le_refl _)
@[simp] theorem take_app (S T : Sto) : (S ++ T).take S.length = S := by simp
theorem mkF_eq (n k : Nat) (b : MS) (ds : List Vl) (S : Sto) (h : ds.length = n) : mkF n k b ds S = endF S.length (b (ds.map some ++ List.replicate k none) S) := if_pos h
theorem forGo_cons (g : MG) (b : MS) (x : P) (xs : List P) (ρ : En) (S : Sto) : forGo g b (x :: xs) ρ S = ((g (.p x) ρ S).nox).go ρ fun ρ1 S1 => match b ρ1 S1 with
    | .ok (.nx ρ2) S2 => forGo g b xs ρ2 S2
    | .ok (.ct ρ2) S2 => forGo g b xs ρ2 S2
    | .ok (.bk ρ2) S2 => .ok (.nx ρ2) S2
    | .ok (.rt d) S2 => .ok (.rt d) S2
    | .ok (.xc ρ2 c x) S2 => .ok (.xc ρ2 c x) S2
    | .bad => .bad := rfl
theorem lcGo_pure {g : MG} {t : MT} {e : ME} {ρ : En} {S : Sto} (q : P → Bool) (f : P → P) : ∀ (xs : List P), (∀ x ∈ xs, ∃ ρ1, g (.p x) ρ S = .ok ρ1 S ∧ t ρ1 S = .ok (q x) S ∧ (q x = true → e ρ1 S = .ok (.p (f x)) S)) →
    lcGo g t e ρ xs S = .ok ((xs.filter q).map f) S
  | [], _ => rfl
  | x :: xs, h => by
    obtain ⟨ρ1, h1, h2, h3⟩ := h x List.mem_cons_self
    have ih := lcGo_pure q f xs fun y hy => h y (List.mem_cons_of_mem _ hy)
    unfold lcGo
    rw [h1, nox_ok, bind_ok, h2, nox_ok, bind_ok]
    cases hq : q x with
    | false =>
      dsimp only
      rw [ih, List.filter_cons_of_neg (by rw [hq]; decide)]
    | true =>
      dsimp only
      rw [h3 hq, nox_ok, bind_ok, frz_p, bind_ok, ih, bind_ok, List.filter_cons_of_pos hq]
      rfl
theorem eLc_pure {it : MI} {vs : List Nat} {g : MG} {t : MT} {e : ME} {ρ : En} {S S1 : Sto} {xs : List P} (q : P → Bool) (f : P → P) (hi : it ρ S = .ok xs S1) (hl : xs.length ≤ 100000)
    (h : ∀ x ∈ xs, ∃ ρ1, g (.p x) (wipeE ρ vs) S1 = .ok ρ1 S1 ∧ t ρ1 S1 = .ok (q x) S1 ∧ (q x = true → e ρ1 S1 = .ok (.p (f x)) S1)) : eLc it vs g t e ρ S = .ok (.p (.lst ((xs.filter q).map f))) S1 := by
  unfold eLc
  rw [hi, bind_ok, if_pos hl, lcGo_pure q f xs h, bind_ok]
theorem eLc_map {it : MI} {vs : List Nat} {g : MG} {e : ME} {ρ : En} {S S1 : Sto} {xs : List P} (f : P → P) (hi : it ρ S = .ok xs S1) (hl : xs.length ≤ 100000)
    (h : ∀ x ∈ xs, ∃ ρ1, g (.p x) (wipeE ρ vs) S1 = .ok ρ1 S1 ∧ e ρ1 S1 = .ok (.p (f x)) S1) : eLc it vs g tsYes e ρ S = .ok (.p (.lst (xs.map f))) S1 := by
  have := eLc_pure (t := tsYes) (e := e) (g := g) (vs := vs) (fun _ => true) f hi hl (fun x hx => by
    obtain ⟨ρ1, h1, h2⟩ := h x hx
    exact ⟨ρ1, h1, rfl, fun _ => h2⟩)
  rw [this, List.filter_eq_self.mpr (fun _ _ => rfl)]
end Mir
namespace Mir
open L2
theorem forGo_ix {g : MG} {b : MS} {A : Type} (f : A → P) (I : Nat → En → Sto → Prop) (ys : List A) : ∀ (k : Nat) (zs : List A) (ρ : En) (S : Sto), ys.drop k = zs → I k ρ S →
    (∀ i y ρ S, ys[i]? = some y → I i ρ S → ∃ ρ1 S1 ρ2 S2, g (.p (f y)) ρ S = .ok ρ1 S1 ∧ (b ρ1 S1 = .ok (.nx ρ2) S2 ∨ b ρ1 S1 = .ok (.ct ρ2) S2) ∧ I (i + 1) ρ2 S2) → ∃ ρ' S', forGo g b (zs.map f) ρ S = .ok (.nx ρ') S' ∧ I (k + zs.length) ρ' S'
  | k, [], ρ, S, _, h, _ => ⟨ρ, S, rfl, h⟩
  | k, y :: zs, ρ, S, hd, h, st => by
    have hy : ys[k]? = some y := by
      have := congrArg (fun l : List A => l[0]?) hd
      simpa using this
    have hd2 : ys.drop (k + 1) = zs := by
      rw [← List.drop_drop, hd]
      rfl
    obtain ⟨ρ1, S1, ρ2, S2, e1, e2, h2⟩ := st k y ρ S hy h
    obtain ⟨ρ', S', e3, h3⟩ := forGo_ix f I ys (k + 1) zs ρ2 S2 hd2 h2 st
    refine ⟨ρ', S', ?_, by rw [List.length_cons, show k + (zs.length + 1) = k + 1 + zs.length by omega]; exact h3⟩
    rw [List.map_cons, forGo_cons, e1, nox_ok, go_ok]
    rcases e2 with e2 | e2
    · rw [e2]; exact e3
    · rw [e2]; exact e3
theorem forGo_list {g : MG} {b : MS} {A : Type} (f : A → P) (I : Nat → En → Sto → Prop) (ys : List A) (ρ : En) (S : Sto) (h : I 0 ρ S)
    (st : ∀ i y ρ S, ys[i]? = some y → I i ρ S → ∃ ρ1 S1 ρ2 S2, g (.p (f y)) ρ S = .ok ρ1 S1 ∧ (b ρ1 S1 = .ok (.nx ρ2) S2 ∨ b ρ1 S1 = .ok (.ct ρ2) S2) ∧ I (i + 1) ρ2 S2) : ∃ ρ' S', forGo g b (ys.map f) ρ S = .ok (.nx ρ') S' ∧ I ys.length ρ' S' := by
  have := forGo_ix f I ys 0 ys ρ S rfl h st
  rwa [Nat.zero_add] at this
theorem forGo_rng {g : MG} {b : MS} (I : Nat → En → Sto → Prop) (n : Nat) (ρ : En) (S : Sto) (h : I 0 ρ S)
    (st : ∀ i ρ S, i < n → I i ρ S → ∃ ρ1 S1 ρ2 S2, g (.p (.int (i : Int))) ρ S = .ok ρ1 S1 ∧ (b ρ1 S1 = .ok (.nx ρ2) S2 ∨ b ρ1 S1 = .ok (.ct ρ2) S2) ∧ I (i + 1) ρ2 S2) : ∃ ρ' S', forGo g b (rangeP 0 n) ρ S = .ok (.nx ρ') S' ∧ I n ρ' S' := by
  have e : rangeP 0 n = (List.range n).map fun (k : Nat) => P.int (k : Int) := by
    unfold rangeP
    apply List.map_congr_left
    intro a _
    rw [Int.zero_add]
  rw [e]
  have := forGo_list (g := g) (b := b) (fun (k : Nat) => P.int (k : Int)) I (List.range n) ρ S h fun i y ρ S hy hI => by
    have hi : i < n := by
      have := (List.getElem?_eq_some_iff.mp hy).1
      rwa [List.length_range] at this
    have : y = i := by
      rw [List.getElem?_range hi] at hy
      exact (Option.some.inj hy).symm
    subst this
    exact st y ρ S hi hI
  rwa [List.length_range] at this
@[simp] theorem pEq_int (i j : Int) : pEq (.int i) (.int j) = some (.bl (i == j)) := rfl
@[simp] theorem pNe_int (i j : Int) : pNe (.int i) (.int j) = some (.bl (!(i == j))) := rfl
@[simp] theorem rangeP_length (lo : Int) (n : Nat) : (rangeP lo n).length = n := by
  unfold rangeP
  rw [List.length_map, List.length_range]
theorem rangeP_0 (n : Nat) : rangeP 0 n = (List.range n).map fun (k : Nat) => P.int (k : Int) := by
  unfold rangeP
  apply List.map_congr_left
  intro a _
  rw [Int.zero_add]
theorem ixV_lsv {S : Sto} {k : Nat} {xs : List Vl} {j : Int} {x : Vl} (h : S[k]? = some (.lsv xs)) (hx : atI xs j = some x) : ixV (.c k) (.p (.int j)) S = .ok x S := by
  unfold ixV
  dsimp only
  rw [h]
  dsimp only
  rw [hx]
theorem fApp_lst {S : Sto} {k : Nat} {xs : List P} {y : P} (h : S[k]? = some (.lst xs)) (hl : xs.length < 100000) : fApp (.c k) [.p y] S = .ok (.p .non) (S.set k (.lst (xs ++ [y]))) := by
  unfold fApp
  dsimp only
  rw [h]
  dsimp only
  rw [frz_p, bind_ok, h]
  dsimp only
  rw [if_pos hl]
theorem frz_lst {S : Sto} {k : Nat} {xs : List P} (h : S[k]? = some (.lst xs)) : frz (.c k) S = .ok (.lst xs) (S.set k (.fz (.lst xs))) := by
  unfold frz frzN
  dsimp only
  rw [h]
theorem frz_fz {S : Sto} {k : Nat} {x : P} (h : S[k]? = some (.fz x)) : frz (.c k) S = .ok x S := by
  unfold frz frzN
  dsimp only
  rw [h]
end Mir
namespace Mir
open L2
theorem itRange1_nat {a : ME} {ρ : En} {S S1 : Sto} {n : Nat} (h : a ρ S = .ok (.p (.int (n : Int))) S1) (hn : n < 1000000) : itRange1 a ρ S = .ok (rangeP 0 n) S1 := by
  have h1 : (n : Int) < 2 ^ 62 := Int.lt_of_lt_of_le (b := 1000000) (by omega) (by decide)
  have h2 : -(2 ^ 62) ≤ (n : Int) := Int.le_trans (b := 0) (by decide) (by omega)
  unfold itRange1
  rw [h, bind_ok]
  dsimp only
  rw [if_pos ⟨h1, h2⟩, Int.toNat_natCast]
end Mir
namespace Mir
open L2
theorem itRange2_nat {a b : ME} {ρ : En} {S S1 S2 : Sto} {m n : Nat} (h : a ρ S = .ok (.p (.int (m : Int))) S1) (h' : b ρ S1 = .ok (.p (.int (n : Int))) S2) (hm : m < 1000000) (hn : n < 1000000) : itRange2 a b ρ S = .ok (rangeP (m : Int) (n - m)) S2 := by
  have h1 : (n : Int) < 2 ^ 62 := Int.lt_of_lt_of_le (b := 1000000) (by omega) (by decide)
  have h2 : -(2 ^ 62) ≤ (n : Int) := Int.le_trans (b := 0) (by decide) (by omega)
  have h3 : (m : Int) < 2 ^ 62 := Int.lt_of_lt_of_le (b := 1000000) (by omega) (by decide)
  have h4 : -(2 ^ 62) ≤ (m : Int) := Int.le_trans (b := 0) (by decide) (by omega)
  unfold itRange2
  rw [h, bind_ok, h', bind_ok]
  dsimp only
  rw [if_pos ⟨⟨h4, h3⟩, ⟨h2, h1⟩⟩]
  have : ((n : Int) - (m : Int)).toNat = n - m := by omega
  rw [this]
theorem eCall1_of {g : List P → Option P} {a : ME} {ρ : En} {S S1 : Sto} {x z : P} (h : a ρ S = .ok (.p x) S1) (hg : g [x] = some z) : eCall g (aCons a aNil) ρ S = .ok (.p z) S1 := by
  unfold eCall aCons aNil
  rw [h, bind_ok, bind_ok, bind_ok]
  show (match rds S1 [.p x] with
    | some xs => ofO (g xs) S1
    | none => Res.bad) = _
  rw [rds_p, rds_nil]
  show ofO (g [x]) S1 = _
  rw [hg]
  rfl
end Mir
namespace Mir
open L2
theorem lcGo_gen {A : Type} {g : MG} {t : MT} {e : ME} {ρ : En} {S : Sto} (en : A → P) (q : A → Bool) (f : A → P) : ∀ (ys : List A), (∀ y ∈ ys, ∃ ρ1, g (.p (en y)) ρ S = .ok ρ1 S ∧ t ρ1 S = .ok (q y) S ∧ (q y = true → e ρ1 S = .ok (.p (f y)) S)) →
    lcGo g t e ρ (ys.map en) S = .ok ((ys.filter q).map f) S
  | [], _ => rfl
  | x :: xs, h => by
    obtain ⟨ρ1, h1, h2, h3⟩ := h x List.mem_cons_self
    have ih := lcGo_gen en q f xs fun y hy => h y (List.mem_cons_of_mem _ hy)
    rw [List.map_cons]
    unfold lcGo
    rw [h1, nox_ok, bind_ok, h2, nox_ok, bind_ok]
    cases hq : q x with
    | false =>
      dsimp only
      rw [ih, List.filter_cons_of_neg (by rw [hq]; decide)]
    | true =>
      dsimp only
      rw [h3 hq, nox_ok, bind_ok, frz_p, bind_ok, ih, bind_ok, List.filter_cons_of_pos hq]
      rfl
theorem eLc_gen {A : Type} {it : MI} {vs : List Nat} {g : MG} {t : MT} {e : ME} {ρ : En} {S S1 : Sto} (ys : List A) (en : A → P) (q : A → Bool) (f : A → P) (hi : it ρ S = .ok (ys.map en) S1) (hl : ys.length ≤ 100000)
    (h : ∀ y ∈ ys, ∃ ρ1, g (.p (en y)) (wipeE ρ vs) S1 = .ok ρ1 S1 ∧ t ρ1 S1 = .ok (q y) S1 ∧ (q y = true → e ρ1 S1 = .ok (.p (f y)) S1)) : eLc it vs g t e ρ S = .ok (.p (.lst ((ys.filter q).map f))) S1 := by
  unfold eLc
  rw [hi, bind_ok, if_pos (by rw [List.length_map]; exact hl), lcGo_gen en q f ys h, bind_ok]
theorem eLc_genm {A : Type} {it : MI} {vs : List Nat} {g : MG} {e : ME} {ρ : En} {S S1 : Sto} (ys : List A) (en f : A → P) (hi : it ρ S = .ok (ys.map en) S1) (hl : ys.length ≤ 100000)
    (h : ∀ y ∈ ys, ∃ ρ1, g (.p (en y)) (wipeE ρ vs) S1 = .ok ρ1 S1 ∧ e ρ1 S1 = .ok (.p (f y)) S1) : eLc it vs g tsYes e ρ S = .ok (.p (.lst (ys.map f))) S1 := by
  have := eLc_gen (t := tsYes) (e := e) (g := g) (vs := vs) ys en (fun _ => true) f hi hl (fun x hx => by
    obtain ⟨ρ1, h1, h2⟩ := h x hx
    exact ⟨ρ1, h1, rfl, fun _ => h2⟩)
  rw [this, List.filter_eq_self.mpr (fun _ _ => rfl)]
theorem enumP_eq (xs : List P) : enumP 0 xs = (List.range xs.length).map fun (i : Nat) => P.tup [.int (i : Int), xs.getD i .non] := by
  apply List.ext_getElem?
  intro i
  rw [enumP_get, List.getElem?_map]
  by_cases h : i < xs.length
  · rw [List.getElem?_range h, List.getElem?_eq_getElem h]
    simp [h]
  · rw [List.getElem?_eq_none (by omega), List.getElem?_eq_none (by rw [List.length_range]; omega)]
    rfl
theorem itEnum_p {a : ME} {ρ : En} {S S1 : Sto} {xs : List P} (h : a ρ S = .ok (.p (.lst xs)) S1) : itEnum a ρ S = .ok ((List.range xs.length).map fun (i : Nat) => P.tup [.int (i : Int), xs.getD i .non]) S1 := by
  unfold itEnum
  rw [h, bind_ok, frz_p, bind_ok]
  dsimp only
  rw [enumP_eq]
end Mir

namespace Mir
open L2 Pl
abbrev nums (l : List Nat) : List P := l.map fun (e : Nat) => P.int (e : Int)
@[simp] theorem ints_length (l : List Nat) : (nums l).length = l.length := List.length_map _
theorem ints_append (l m : List Nat) : nums (l ++ m) = nums l ++ nums m := List.map_append
theorem rangeP_ints (n : Nat) : rangeP 0 n = nums (List.range n) := rangeP_0 n
theorem inP_nums (e : Nat) (l : List Nat) : inP (.int (e : Int)) (nums l) = l.contains e := by
  induction l with
  | nil => rfl
  | cons a l ih =>
    show ((a : Int) == (e : Int) || inP (.int (e : Int)) (nums l)) = _
    rw [ih, List.contains_cons]
    congr 1
    rw [Bool.eq_iff_iff]
    simp
    omega
theorem flat_ints (l : List Nat) : (nums l).all flatP = true := by
  unfold nums
  rw [List.all_map, List.all_eq_true]
  intro x _
  rfl
theorem pNotIn2_ints (e : Nat) (l : List Nat) : pNotIn2 (.int (e : Int)) (.lst (nums l)) = some (.bl (!l.contains e)) := by
  unfold pNotIn2 pNotIn pIn
  dsimp only
  rw [flat_ints]
  show (match some (P.bl (!inP (.int (e : Int)) (nums l))) with
    | some z => some z
    | none => pNotInD (.int (e : Int)) (.lst (nums l))) = _
  rw [inP_nums]
theorem filter_ints (q : Nat → Bool) (p : P → Bool) (h : ∀ e : Nat, p (.int (e : Int)) = q e) (l : List Nat) : (nums l).filter p = nums (l.filter q) := by
  unfold nums
  rw [List.filter_map]
  congr 1
  apply List.filter_congr
  intro x _
  exact h x
end Mir

namespace Mir
open PySem L2
def andK (x : Bool) (r : Res Bool) (S : Sto) : Res Bool := match x with
  | true => r
  | false => .ok false S
def orK (x : Bool) (r : Res Bool) (S : Sto) : Res Bool := match x with
  | true => .ok true S
  | false => r
def eandK (x : Bool) (r : Res Vl) (S : Sto) : Res Vl := match x with
  | true => r
  | false => .ok (.p (.bl false)) S
def eorK (x : Bool) (r : Res Vl) (S : Sto) : Res Vl := match x with
  | true => .ok (.p (.bl true)) S
  | false => r
def ifK {A : Type} (x : Bool) (a b : A) : A := match x with
  | true => a
  | false => b
section
variable {ρ ρ1 ρ2 : En} {S S1 S2 S3 : Sto} {a b c : ME} {t u : MT} {m r : MA} {s s' : MS} {x y z w : P} {d e v : Vl} {ds es : List Vl} {xs ys : List P}
theorem ev_var {i : Nat} (h : ρ[i]? = some (some d)) : eVar i ρ S = .ok d S := by
  unfold eVar
  rw [h]
theorem ev_c : eC x ρ S = .ok (.p x) S := rfl
theorem ev_un {f : P → Option P} (ha : a ρ S = .ok d S1) (hd : rd S1 d = some x) (hf : f x = some z) : eUn f a ρ S = .ok (.p z) S1 := by
  rw [eUn_eq, ha, bind_ok, op1_rd hd, hf, ofO_some]
theorem ev_bin {f : P → P → Option P} (ha : a ρ S = .ok d S1) (hb : b ρ S1 = .ok e S2) (hd : rd S2 d = some x) (he : rd S2 e = some y) (hf : f x y = some z) : eBin f a b ρ S = .ok (.p z) S2 := by
  rw [eBin_eq, ha, bind_ok, hb, bind_ok, op2_rd hd he, hf, ofO_some]
theorem ev_item (ha : a ρ S = .ok d S1) (hb : b ρ S1 = .ok e S2) (hx : ixV (nv S2 d) e S2 = .ok v S2) : eItem a b ρ S = .ok v S2 := by
  rw [eItem_eq, ha, bind_ok, hb, bind_ok, hx]
theorem ixv_p (h : pIx x y = some z) : ixV (nv S (.p x)) (.p y) S = .ok (.p z) S := by
  rw [nv_p, ixV_p, op2_pp, h, ofO_some]
theorem ixv_l {k : Nat} {j : Int} (hk : S[k]? = some (.lst xs)) (h : atI xs j = some z) : ixV (nv S (.c k)) (.p (.int j)) S = .ok (.p z) S := by
  rw [nv_lst hk, ixV_lst hk, h, ofO_some]
theorem ixv_v {k : Nat} {j : Int} {vs : List Vl} (hk : S[k]? = some (.lsv vs)) (h : atI vs j = some v) : ixV (nv S (.c k)) (.p (.int j)) S = .ok v S := by
  rw [nv_lsv hk, ixV_lsv hk h]
theorem ixv_f {k : Nat} (hk : S[k]? = some (.fz x)) (h : pIx x y = some z) : ixV (nv S (.c k)) (.p y) S = .ok (.p z) S := by
  rw [nv_fz hk, ixV_p, op2_pp, h, ofO_some]
theorem rds_c (h : rd S d = some x) (h2 : rds S ds = some xs) : rds S (d :: ds) = some (x :: xs) := by
  rw [rds_rd h, h2]
  rfl
theorem ev_call {f : List P → Option P} (hm : m ρ S = .ok ds S1) (hr : rds S1 ds = some xs) (hf : f xs = some z) : eCall f m ρ S = .ok (.p z) S1 := by
  rw [eCall_eq, hm, bind_ok, call1_eq, hr]
  dsimp only
  rw [hf, ofO_some]
theorem ev_mth {T : String} {f : P → List P → Option P} (ha : a ρ S = .ok d S1) (hr : rd S1 d = some x) (ht : tyP T x = true) (hm : m ρ S1 = .ok ds S2) (hr2 : rd S2 d = some y) (hrs : rds S2 ds = some xs) (hf : f y xs = some z) : eMthT T f a m ρ S = .ok (.p z) S2 := by
  rw [eMthT_p, ha, bind_ok, hr]
  dsimp only
  rw [ht, if_pos rfl, hm, bind_ok, call1_eq, rds_c hr2 hrs]
  dsimp only
  rw [hf, ofO_some]
theorem ev_mut {g : Sto → Vl → Bool} {f : FM} (ha : a ρ S = .ok d S1) (hg : g S1 d = true) (hm : m ρ S1 = .ok ds S2) (hf : f d ds S2 = .ok v S3) : eMut g f a m ρ S = .ok v S3 := by
  rw [eMut_eq, ha, bind_ok, hg, if_pos rfl, hm, bind_ok, hf]
theorem ev_fn {f : MF} (hm : m ρ S = .ok ds S1) (hf : f ds S1 = .ok v S2) : eFn f m ρ S = .ok v S2 := by
  rw [eFn_eq, hm, bind_ok, hf]
theorem ev_fnK {f : MF} {n kl : Nat} {pm : List Nat} {zs as : List Vl} (hm : m ρ S = .ok ds S1) (hr : r ρ S1 = .ok zs S2) (h1 : ds.length = n) (h2 : zs.length = kl) (hp : permL (.p .non) pm (ds ++ zs) = as) (hf : f as S2 = .ok v S3) : eFnK f n kl pm m r ρ S = .ok v S3 := by
  unfold eFnK
  rw [hm, bind_ok, hr, bind_ok, if_pos ⟨h1, h2⟩, hp, hf]
theorem ev_meth {c f : PySem.Str} {g : MF} (ha : a ρ S = .ok d S1) (hg : isO c f S1 (nv S1 d) = true) (hm : m ρ S1 = .ok ds S2) (hf : g (d :: ds) S2 = .ok v S3) : eMeth c f g a m ρ S = .ok v S3 := by
  rw [eMeth_eq, ha, bind_ok, hg, if_pos rfl, hm, bind_ok, hf]
theorem ev_methK {c f : PySem.Str} {g : MF} {n kl : Nat} {pm : List Nat} {zs as : List Vl} (ha : a ρ S = .ok d S1) (hg : isO c f S1 (nv S1 d) = true) (hm : m ρ S1 = .ok ds S2) (hr : r ρ S2 = .ok zs S3) (h1 : ds.length = n) (h2 : zs.length = kl) {S4 : Sto}
    (hp : permL (.p .non) pm (d :: (ds ++ zs)) = as) (hf : g as S3 = .ok v S4) : eMethK c f g n kl pm a m r ρ S = .ok v S4 := by
  unfold eMethK
  rw [ha, bind_ok, hg, if_pos rfl, hm, bind_ok, hr, bind_ok, if_pos ⟨h1, h2⟩, ← List.cons_append] at *
  first
    | exact hf
    | (rw [hp]; exact hf)
    | (simp only [List.cons_append] at hp ⊢; rw [hp]; exact hf)
theorem ev_make {kp : Bool} {c : PySem.Str} {g : MF} (hm : m ρ S = .ok ds S1) (hf : mkO kp c g ds S1 = .ok v S2) : eMake kp c g m ρ S = .ok v S2 := by
  rw [eMake_eq, hm, bind_ok, hf]
theorem ev_fld {c f : PySem.Str} (ha : a ρ S = .ok d S1) (hf : fldV c f (nv S1 d) S1 = .ok v S1) : eFld c f a ρ S = .ok v S1 := by
  rw [eFld_eq, ha, bind_ok, hf]
theorem ev_prop {c : PySem.Str} {f : MF} (ha : a ρ S = .ok d S1) (hg : isC c S1 (nv S1 d) = true) (hf : f [d] S1 = .ok v S2) : eProp c f a ρ S = .ok v S2 := by
  rw [eProp_eq, ha, bind_ok, hg, if_pos rfl, hf, nox_ok]
theorem ev_isi {cs : List PySem.Str} {T : Tg} {q : Bool} (ha : a ρ S = .ok d S1) (hb : b ρ S1 = .ok (.p y) S2) (ht : tgOf S2 (nv S2 d) = some T) (hi : isT cs T y = some q) : eIsi cs a b ρ S = .ok (.p (.bl q)) S2 := by
  unfold eIsi
  rw [ha, bind_ok, hb, bind_ok, ht]
  dsimp only
  rw [hi]
theorem ev_anil : aNil ρ S = .ok [] S := rfl
theorem ev_acons (ha : a ρ S = .ok d S1) (hm : m ρ S1 = .ok ds S2) : aCons a m ρ S = .ok (d :: ds) S2 := by
  rw [aCons_eq, ha, bind_ok, hm, bind_ok]
theorem ev_tval {q : Bool} (ha : a ρ S = .ok (.p (.bl q)) S1) : tVal a ρ S = .ok q S1 := by
  rw [tVal_eq, ha, bind_ok, tst_bl]
theorem ev_tand {q q2 : Bool} (ht : t ρ S = .ok q S1) (hk : andK q (u ρ S1) S1 = .ok q2 S2) : tAndM t u ρ S = .ok q2 S2 := by
  rw [tAnd_eq, ht, bind_ok]
  exact hk
theorem ev_tor {q q2 : Bool} (ht : t ρ S = .ok q S1) (hk : orK q (u ρ S1) S1 = .ok q2 S2) : tOrM t u ρ S = .ok q2 S2 := by
  rw [tOr_eq, ht, bind_ok]
  exact hk
theorem ev_tnot {q q' : Bool} (ht : t ρ S = .ok q S1) (hq : (!q) = q') : tNotM t ρ S = .ok q' S1 := by
  rw [tNot_eq, ht, bind_ok, hq]
theorem ev_eand {q : Bool} (ha : a ρ S = .ok (.p (.bl q)) S1) (hk : eandK q (b ρ S1) S1 = .ok v S2) : eAndM a b ρ S = .ok v S2 := by
  rw [eAnd_eq, ha, bind_ok, tst_bl, bind_ok]
  exact hk
theorem ev_eor {q : Bool} (ha : a ρ S = .ok (.p (.bl q)) S1) (hk : eorK q (b ρ S1) S1 = .ok v S2) : eOrM a b ρ S = .ok v S2 := by
  rw [eOr_eq, ha, bind_ok, tst_bl, bind_ok]
  exact hk
theorem ev_enot {q q' : Bool} (ha : a ρ S = .ok (.p (.bl q)) S1) (hq : (!q) = q') : eNotM a ρ S = .ok (.p (.bl q')) S1 := by
  rw [eNot_eq, ha, bind_ok, tst_bl, bind_ok, hq]
theorem ev_if {q : Bool} (ht : t ρ S = .ok q S1) (hk : ifK q (a ρ S1) (b ρ S1) = .ok v S2) : eIfM t a b ρ S = .ok v S2 := by
  rw [eIf_eq, ht, bind_ok]
  exact hk
theorem ev_isN (ha : a ρ S = .ok d S1) {q : Bool} (h : isN d = q) : eIsN a ρ S = .ok (.p (.bl q)) S1 := by
  rw [eIsN_eq, ha, bind_ok, h]
theorem ev_notN (ha : a ρ S = .ok d S1) {q : Bool} (h : (!isN d) = q) : eNotN a ρ S = .ok (.p (.bl q)) S1 := by
  rw [eNotN_eq, ha, bind_ok, h]

theorem andK_f {r : Res Bool} : andK false r S = .ok false S := rfl
theorem andK_t {r o : Res Bool} (h : r = o) : andK true r S = o := h
theorem andK_s {q q2 : Bool} {r : Res Bool} (h : q = true → r = .ok q2 S) : andK q r S = .ok (q && q2) S := by
  cases q with
  | false => rfl
  | true => exact h rfl
theorem orK_t {r : Res Bool} : orK true r S = .ok true S := rfl
theorem orK_f {r o : Res Bool} (h : r = o) : orK false r S = o := h
theorem orK_s {q q2 : Bool} {r : Res Bool} (h : q = false → r = .ok q2 S) : orK q r S = .ok (q || q2) S := by
  cases q with
  | true => rfl
  | false => exact h rfl
theorem eandK_f {r : Res Vl} : eandK false r S = .ok (.p (.bl false)) S := rfl
theorem eandK_t {r o : Res Vl} (h : r = o) : eandK true r S = o := h
theorem eandK_s {q q2 : Bool} {r : Res Vl} (h : q = true → r = .ok (.p (.bl q2)) S) : eandK q r S = .ok (.p (.bl (q && q2))) S := by
  cases q with
  | false => rfl
  | true => exact h rfl
theorem eorK_t {r : Res Vl} : eorK true r S = .ok (.p (.bl true)) S := rfl
theorem eorK_f {r o : Res Vl} (h : r = o) : eorK false r S = o := h
theorem eorK_s {q q2 : Bool} {r : Res Vl} (h : q = false → r = .ok (.p (.bl q2)) S) : eorK q r S = .ok (.p (.bl (q || q2))) S := by
  cases q with
  | true => rfl
  | false => exact h rfl
theorem ifK_t {A : Type} {p q o : A} (h : p = o) : ifK true p q = o := h
theorem ifK_f {A : Type} {p q o : A} (h : q = o) : ifK false p q = o := h
theorem ifK_yes {A : Type} {x : Bool} {p q o : A} (hx : x = true) (h : p = o) : ifK x p q = o := by
  subst hx
  exact h
theorem ifK_no {A : Type} {x : Bool} {p q o : A} (hx : x = false) (h : q = o) : ifK x p q = o := by
  subst hx
  exact h
theorem ifK_s {q : Bool} {r r' : Res Vl} (h : q = true → r = .ok (.p x) S) (h' : q = false → r' = .ok (.p y) S) : ifK q r r' = .ok (.p (if q then x else y)) S := by
  cases q with
  | true => exact h rfl
  | false => exact h' rfl
theorem ifK_n {q : Bool} {i j : Nat} {r r' : Res Vl} (h : q = true → r = .ok (.p (.int (i : Int))) S) (h' : q = false → r' = .ok (.p (.int (j : Int))) S) : ifK q r r' = .ok (.p (.int ((if q then i else j : Nat) : Int))) S := by
  cases q with
  | true => exact h rfl
  | false => exact h' rfl
theorem ifK_i {q : Bool} {i j : Int} {r r' : Res Vl} (h : q = true → r = .ok (.p (.int i)) S) (h' : q = false → r' = .ok (.p (.int j)) S) : ifK q r r' = .ok (.p (.int (if q then i else j))) S := by
  cases q with
  | true => exact h rfl
  | false => exact h' rfl

theorem frzs_z : frzs [] S = .ok [] S := rfl
theorem frzs_s (h : frz d S = .ok x S1) (h2 : frzs ds S1 = .ok xs S2) : frzs (d :: ds) S = .ok (x :: xs) S2 := by
  rw [frzs_cons, h, bind_ok, h2, bind_ok]
theorem ev_tup (hm : m ρ S = .ok ds S1) (hf : frzs ds S1 = .ok xs S2) (hl : xs.length ≤ 100000) : eTup m ρ S = .ok (.p (.tup xs)) S2 := by
  rw [eTup_eq, hm, bind_ok, hf, bind_ok, if_pos hl]
theorem ev_lst (hm : m ρ S = .ok ds S1) (hf : frzs ds S1 = .ok xs S2) (hl : xs.length ≤ 100000) : eLst m ρ S = .ok (.p (.lst xs)) S2 := by
  rw [eLst_eq, hm, bind_ok, hf, bind_ok, if_pos hl]
theorem ev_lstC (hm : m ρ S = .ok ds S1) (hf : frzs ds S1 = .ok xs S2) (hl : xs.length ≤ 100000) : eLstC m ρ S = .ok (.c S2.length) (S2 ++ [.lst xs]) := by
  rw [eLstC_eq, hm, bind_ok, hf, bind_ok, if_pos hl]

theorem ev_sl {l h : En → Sto → Res (Option Int)} {lo hi : Option Int} (ha : a ρ S = .ok d S1) (hl : l ρ S1 = .ok lo S2) (hh : h ρ S2 = .ok hi S3) (hd : rd S3 d = some x) (hf : pSl lo hi x = some z) : eSl a l h ρ S = .ok (.p z) S3 := by
  rw [eSl_eq, ha, bind_ok, hl, bind_ok, hh, bind_ok, op1_rd hd, hf, ofO_some]
theorem ev_ono : oNo ρ S = .ok none S := rfl
theorem ev_oyes {i : Int} (ha : a ρ S = .ok (.p (.int i)) S1) : oYes a ρ S = .ok (some i) S1 := by
  rw [oYes_eq, ha, bind_ok, intV_int]

theorem ev_itOf (ha : a ρ S = .ok d S1) (hf : frz d S1 = .ok x S2) (hi : itemsP x = some xs) : itOf a ρ S = .ok xs S2 := by
  rw [itOf_eq, ha, bind_ok, hf, bind_ok, hi]
theorem ev_range1 {n : Nat} (ha : a ρ S = .ok (.p (.int (n : Int))) S1) (hn : n < 1000000) : itRange1 a ρ S = .ok ((List.range n).map fun (k : Nat) => P.int (k : Int)) S1 := by
  rw [itRange1_nat ha hn, rangeP_0]
theorem ev_range1i {i : Int} {n : Nat} (ha : a ρ S = .ok (.p (.int i)) S1) (hi : i = (n : Int)) (hn : n < 1000000) : itRange1 a ρ S = .ok ((List.range n).map fun (k : Nat) => P.int (k : Int)) S1 := by
  subst hi
  exact ev_range1 ha hn
theorem ev_enum_map {A : Type} {ys : List A} {f : A → P} [Inhabited A] (ha : a ρ S = .ok (.p (.lst (ys.map f))) S1) : itEnum a ρ S = .ok ((List.range ys.length).map fun (i : Nat) => P.tup [.int (i : Int), f (ys.getD i default)]) S1 := by
  rw [itEnum_p ha]
  congr 1
  rw [List.length_map]
  apply List.map_congr_left
  intro i hi
  have hi := List.mem_range.mp hi
  simp [hi]
theorem zipP_map {A B : Type} (f : A → P) (g : B → P) : ∀ (xs : List A) (ys : List B), zipP (xs.map f) (ys.map g) = (xs.zip ys).map fun q => P.tup [f q.1, g q.2]
  | [], _ => rfl
  | _ :: _, [] => rfl
  | x :: xs, y :: ys => by
    show _ :: zipP (xs.map f) (ys.map g) = _
    rw [zipP_map f g xs ys]
    rfl
theorem ev_zip {A B : Type} {f : A → P} {g : B → P} {us : List A} {ws : List B} (ha : a ρ S = .ok (.p (.lst (us.map f))) S1) (hb : b ρ S1 = .ok (.p (.lst (ws.map g))) S2) : itZip a b ρ S = .ok ((us.zip ws).map fun q => P.tup [f q.1, g q.2]) S2 := by
  unfold itZip
  rw [ha, bind_ok, hb, bind_ok]
  dsimp only
  rw [zipP_map]

theorem ev_lc {A : Type} {it : MI} {vs : List Nat} {g : MG} {ys : List A} {en f : A → P} {q : A → Bool} {ρ0 : En} {ρ1 : A → En} (hi : it ρ S = .ok (ys.map en) S1) (hl : ys.length ≤ 100000) (hw : wipeE ρ vs = ρ0)
    (hg : ∀ y, y ∈ ys → g (.p (en y)) ρ0 S1 = .ok (ρ1 y) S1) (ht : ∀ y, y ∈ ys → t (ρ1 y) S1 = .ok (q y) S1) (he : ∀ y, y ∈ ys → q y = true → a (ρ1 y) S1 = .ok (.p (f y)) S1) : eLc it vs g t a ρ S = .ok (.p (.lst ((ys.filter q).map f))) S1 := by
  subst hw
  exact eLc_gen ys en q f hi hl fun y hy => ⟨ρ1 y, hg y hy, ht y hy, he y hy⟩
theorem ev_lcm {A : Type} {it : MI} {vs : List Nat} {g : MG} {ys : List A} {en f : A → P} {ρ0 : En} {ρ1 : A → En} (hi : it ρ S = .ok (ys.map en) S1) (hl : ys.length ≤ 100000) (hw : wipeE ρ vs = ρ0)
    (hg : ∀ y, y ∈ ys → g (.p (en y)) ρ0 S1 = .ok (ρ1 y) S1) (he : ∀ y, y ∈ ys → a (ρ1 y) S1 = .ok (.p (f y)) S1) : eLc it vs g tsYes a ρ S = .ok (.p (.lst (ys.map f))) S1 := by
  subst hw
  exact eLc_genm ys en f hi hl fun y hy => ⟨ρ1 y, hg y hy, he y hy⟩
theorem ev_lcx {it : MI} {vs : List Nat} {g : MG} {ρ0 : En} (hi : it ρ S = .ok xs S1) (hl : xs.length ≤ 100000) (hw : wipeE ρ vs = ρ0) (hg : lcGo g t a ρ0 xs S1 = .ok ys S2) : eLc it vs g t a ρ S = .ok (.p (.lst ys)) S2 := by
  subst hw
  unfold eLc
  rw [hi, bind_ok, if_pos hl, hg, bind_ok]
theorem lcx_nil {g : MG} : lcGo g t a ρ [] S = .ok [] S := rfl
theorem lcx_yes {g : MG} {S4 : Sto} (hg : g (.p x) ρ S = .ok ρ1 S) (ha : a ρ1 S = .ok d S2) (hf : frz d S2 = .ok y S3) (hr : lcGo g tsYes a ρ xs S3 = .ok ys S4) : lcGo g tsYes a ρ (x :: xs) S = .ok (y :: ys) S4 := by
  unfold lcGo
  rw [hg, nox_ok, bind_ok]
  show ((Res.ok true S).nox.bind _) = _
  rw [nox_ok, bind_ok]
  dsimp only
  rw [ha, nox_ok, bind_ok, hf, bind_ok, hr, bind_ok]

theorem ev_gnm {i : Nat} (h : ρ.set i (some d) = ρ1) : gNm i d ρ S = .ok ρ1 S := by
  rw [gNm_eq, h]
theorem ev_gtp {n : Nat} {r : MGs} {vs : List Vl} (hl : xs.length = n) (hv : xs.map Vl.p = vs) (hr : r vs ρ S = .ok ρ1 S1) : gTp n r (.p (.tup xs)) ρ S = .ok ρ1 S1 := by
  rw [gTp_eq, if_pos hl, hv, hr]
theorem ev_gnl : gNl [] ρ S = .ok ρ S := rfl
theorem ev_gcn {g : MG} {r : MGs} (hg : g d ρ S = .ok ρ1 S1) (hr : r ds ρ1 S1 = .ok ρ2 S2) : gCn g r (d :: ds) ρ S = .ok ρ2 S2 := by
  rw [gCn_eq, hg, nox_ok, bind_ok, hr]

theorem ev_pass : sPass ρ S = .ok (.nx ρ) S := rfl
theorem ev_expr (ha : a ρ S = .ok d S1) : sExpr a ρ S = .ok (.nx ρ) S1 := by
  rw [sExpr_eq, ha, go_ok]
theorem ev_ret (ha : a ρ S = .ok d S1) : sRet a ρ S = .ok (.rt d) S1 := by
  rw [sRet_eq, ha, go_ok]
theorem ev_retN : sRetN ρ S = .ok (.rt (.p .non)) S := rfl
theorem ev_seq {f : Fl} {o : RF} (h1 : s ρ S = .ok f S1) (h2 : (RF.ok f S1).thn s' = o) : sSeq s s' ρ S = o := by
  rw [sSeq_eq, h1, h2]
theorem thn_n {o : RF} (h : s ρ S = o) : (RF.ok (.nx ρ) S).thn s = o := h
theorem thn_r : (RF.ok (.rt d) S).thn s = .ok (.rt d) S := rfl
theorem ev_asg {g : MG} (ha : a ρ S = .ok d S1) (hg : g d ρ S1 = .ok ρ1 S2) : sAsg a g ρ S = .ok (.nx ρ1) S2 := by
  rw [sAsg_eq, ha, go_ok, hg, nox_ok, go_ok]
theorem ev_par {i j : Nat} (hm : m ρ S = .ok [d, e] S1) (h : (ρ.set i (some d)).set j (some e) = ρ1) : sPar i j m ρ S = .ok (.nx ρ1) S1 := by
  rw [sPar_eq, hm, go_ok]
  dsimp only
  rw [h]
theorem ev_par3 {i j l : Nat} (hm : m ρ S = .ok [d, e, v] S1) (h : ((ρ.set i (some d)).set j (some e)).set l (some v) = ρ1) : sPar3 i j l m ρ S = .ok (.nx ρ1) S1 := by
  rw [sPar3_eq, hm, go_ok]
  dsimp only
  rw [h]
theorem ev_parG {n : Nat} {g : MGs} (hm : m ρ S = .ok ds S1) (h1 : ds.length = n) (h2 : n ≤ 100000) (hg : g ds ρ S1 = .ok ρ1 S2) : sParG n m g ρ S = .ok (.nx ρ1) S2 := by
  rw [sParG_eq, hm, go_ok, if_pos ⟨h1, h2⟩, hg, nox_ok, go_ok]
theorem ev_sif {q : Bool} {o : RF} (ht : t ρ S = .ok q S1) (hk : ifK q (s ρ S1) (s' ρ S1) = o) : sIf t s s' ρ S = o := by
  rw [sIf_eq, ht, go_ok]
  exact hk

theorem ev_mkF {n k : Nat} {body : MS} {f : Fl} {o : Res Vl} (hl : ds.length = n) (hρ : ds.map some ++ List.replicate k none = ρ) (h : body ρ S = .ok f S1) (hr : endF S.length (.ok f S1) = o) : mkF n k body ds S = o := by
  rw [mkF_eq n k body ds S hl, hρ, h, hr]
theorem end_self : endF S.length (.ok (.rt (.p x)) S) = .ok (.p x) S := by
  rw [endF_p, take_self]
theorem end_nx : endF S.length (.ok (.nx ρ) S) = .ok (.p .non) S := by
  rw [endF_nx, take_self]
theorem end_app {T : Sto} : endF S.length (.ok (.rt (.p x)) (S ++ T)) = .ok (.p x) S := by
  rw [endF_p, take_app]
theorem end_nxa {T : Sto} : endF S.length (.ok (.nx ρ) (S ++ T)) = .ok (.p .non) S := by
  rw [endF_nx, take_app]

theorem cell0 {c : Cell} {T : Sto} : (S ++ (c :: T))[S.length]? = some c := by simp
theorem cell1 {c0 c : Cell} {T : Sto} : (S ++ (c0 :: c :: T))[S.length + 1]? = some c := by simp
theorem cell2 {c0 c1 c : Cell} {T : Sto} : (S ++ (c0 :: c1 :: c :: T))[S.length + 2]? = some c := by simp
end
end Mir

namespace Pl
def bitsN (l : List Nat) : Nat := (l.map fun a => 2 ^ a).sum
theorem test_add {a m : Nat} (h : m.testBit a = false) (i : Nat) : (m + 2 ^ a).testBit i = (m.testBit i || i == a) := by
  induction a generalizing m i with
  | zero =>
    rw [Nat.testBit_zero] at h
    have hm : m % 2 = 0 := by
      have := of_decide_eq_false h
      omega
    cases i with
    | zero =>
      rw [Nat.testBit_zero, Nat.testBit_zero]
      have e : (m + 2 ^ 0) % 2 = 1 := by simp; omega
      rw [e]
      simp
    | succ i =>
      rw [Nat.testBit_succ, Nat.testBit_succ]
      have e : (m + 2 ^ 0) / 2 = m / 2 := by simp; omega
      rw [e]
      simp
  | succ a ih =>
    rw [Nat.testBit_succ] at h
    cases i with
    | zero =>
      rw [Nat.testBit_zero, Nat.testBit_zero]
      have e : (m + 2 ^ (a + 1)) % 2 = m % 2 := by rw [Nat.pow_succ]; omega
      rw [e]
      simp
    | succ i =>
      rw [Nat.testBit_succ, Nat.testBit_succ]
      have e : (m + 2 ^ (a + 1)) / 2 = m / 2 + 2 ^ a := by rw [Nat.pow_succ]; omega
      rw [e, ih h]
      congr 1
      rw [Bool.eq_iff_iff]
      simp
theorem bits_test : ∀ {l : List Nat}, l.Nodup → ∀ i, (bitsN l).testBit i = l.contains i
  | [], _, i => by simp [bitsN]
  | a :: l, h, i => by
    rw [List.nodup_cons] at h
    have ih := bits_test h.2
    have e : bitsN (a :: l) = bitsN l + 2 ^ a := by
      show 2 ^ a + (l.map fun a => 2 ^ a).sum = _
      rw [Nat.add_comm]
      rfl
    rw [e, test_add (by rw [ih]; simpa using h.1), ih, List.contains_cons, Bool.or_comm]
theorem test_minus (i : Nat) : ∀ a b : Nat, (a - (a &&& b)).testBit i = (a.testBit i && !b.testBit i) := by
  induction i with
  | zero =>
    intro a b
    rw [Nat.testBit_zero, Nat.testBit_zero, Nat.testBit_zero]
    have h1 : (a &&& b) % 2 = (a % 2) * (b % 2) := by
      have := Nat.testBit_and a b 0
      rw [Nat.testBit_zero, Nat.testBit_zero, Nat.testBit_zero] at this
      rcases Nat.mod_two_eq_zero_or_one a with ha | ha <;> rcases Nat.mod_two_eq_zero_or_one b with hb | hb <;> rcases Nat.mod_two_eq_zero_or_one (a &&& b) with hx | hx <;> simp [ha, hb, hx] at this ⊢
    have h2 : a &&& b ≤ a := Nat.and_le_left
    rcases Nat.mod_two_eq_zero_or_one a with ha | ha <;> rcases Nat.mod_two_eq_zero_or_one b with hb | hb
    · have : (a - (a &&& b)) % 2 = 0 := by rw [ha, hb] at h1; omega
      simp [ha, hb, this]
    · have : (a - (a &&& b)) % 2 = 0 := by rw [ha, hb] at h1; omega
      simp [ha, hb, this]
    · have : (a - (a &&& b)) % 2 = 1 := by rw [ha, hb] at h1; omega
      simp [ha, hb, this]
    · have : (a - (a &&& b)) % 2 = 0 := by rw [ha, hb] at h1; omega
      simp [ha, hb, this]
  | succ i ih =>
    intro a b
    rw [Nat.testBit_succ, Nat.testBit_succ, Nat.testBit_succ, ← ih]
    congr 1
    have h1 : (a &&& b) / 2 = a / 2 &&& b / 2 := Nat.and_div_two
    have h2 : a / 2 &&& b / 2 ≤ a / 2 := Nat.and_le_left
    have h3 : (a &&& b) % 2 ≤ a % 2 := by
      have := Nat.testBit_and a b 0
      rw [Nat.testBit_zero, Nat.testBit_zero, Nat.testBit_zero] at this
      rcases Nat.mod_two_eq_zero_or_one a with ha | ha <;> rcases Nat.mod_two_eq_zero_or_one b with hb | hb <;> rcases Nat.mod_two_eq_zero_or_one (a &&& b) with hx | hx <;> simp [ha, hb, hx] at this ⊢
    omega
theorem bits_lt {l : List Nat} {n : Nat} (h : l.Nodup) (hl : ∀ e ∈ l, e < n) : bitsN l < 2 ^ n := by
  apply Nat.lt_pow_two_of_testBit
  intro i hi
  rw [bits_test h]
  simp
  intro z
  have := hl i z
  omega
theorem filter_range {p : Nat → Bool} {m n : Nat} (h : m ≤ n) (hp : ∀ i, m ≤ i → p i = false) : (List.range m).filter p = (List.range n).filter p := by
  obtain ⟨k, rfl⟩ := Nat.exists_eq_add_of_le h
  rw [List.range_add, List.filter_append]
  have : ((List.range k).map fun x => m + x).filter p = [] := by
    rw [List.filter_eq_nil_iff]
    intro a ha
    obtain ⟨b, _, rfl⟩ := List.mem_map.mp ha
    rw [hp _ (by omega)]
    decide
  rw [this, List.append_nil]
def mem_ (n b : Nat) : List Nat := (List.range n).filter fun i => b.testBit i
theorem sorted_eq : ∀ {l m : List Nat}, l.Pairwise (· < ·) → m.Pairwise (· < ·) → (∀ e, e ∈ l ↔ e ∈ m) → l = m
  | [], [], _, _, _ => rfl
  | [], b :: m, _, _, h => absurd ((h b).mpr List.mem_cons_self) (by simp)
  | a :: l, [], _, _, h => absurd ((h a).mp List.mem_cons_self) (by simp)
  | a :: l, b :: m, h1, h2, h => by
    rw [List.pairwise_cons] at h1 h2
    have hab : a = b := by
      have ha := (h a).mp List.mem_cons_self
      have hb := (h b).mpr List.mem_cons_self
      rcases List.mem_cons.mp ha with e | e
      · exact e
      · rcases List.mem_cons.mp hb with e2 | e2
        · exact e2.symm
        · have := h2.1 a e
          have := h1.1 b e2
          omega
    subst hab
    congr 1
    refine sorted_eq h1.2 h2.2 fun e => ?_
    constructor
    · intro he
      rcases List.mem_cons.mp ((h e).mp (List.mem_cons_of_mem _ he)) with z | z
      · subst z; have := h1.1 e he; omega
      · exact z
    · intro he
      rcases List.mem_cons.mp ((h e).mpr (List.mem_cons_of_mem _ he)) with z | z
      · subst z; have := h2.1 e he; omega
      · exact z
theorem range_sorted (n : Nat) : (List.range n).Pairwise (· < ·) := List.pairwise_lt_range
theorem mem_bits {l : List Nat} {n : Nat} (h : l.Pairwise (· < ·)) (hl : ∀ e ∈ l, e < n) : mem_ n (bitsN l) = l := by
  have nd : l.Nodup := h.imp fun z => Nat.ne_of_lt z
  refine sorted_eq ((range_sorted n).filter _) h fun e => ?_
  rw [mem_, List.mem_filter, List.mem_range]
  rw [bits_test nd]
  simp
  exact fun z => hl e z
end Pl
namespace Mir
open PySem L2 Pl
theorem band_nat (a b : Nat) : Builtin.bitAnd (a : Int) (b : Int) = ((a &&& b : Nat) : Int) := PySem.W.os_band a b
theorem band_not (a b : Nat) : Builtin.bitAnd (a : Int) (Builtin.bitNot (b : Int)) = ((a - (a &&& b) : Nat) : Int) := by
  unfold Builtin.bitAnd
  have h1 : decide ((0 : Int) ≤ (a : Int)) = true := decide_eq_true (by omega)
  have h2 : decide ((0 : Int) ≤ Builtin.bitNot (b : Int)) = false := decide_eq_false (by unfold Builtin.bitNot; omega)
  rw [h1, h2]
  dsimp only
  have h3 : (Builtin.bitNot (Builtin.bitNot (b : Int))).toNat = b := by unfold Builtin.bitNot; omega
  rw [h3, Int.toNat_natCast]
  have : a &&& b ≤ a := Nat.and_le_left
  omega
theorem shr_test (b i : Nat) : Builtin.bitAnd ((b : Int) / 2 ^ (i : Int).toNat) 1 = if b.testBit i then 1 else 0 := by
  rw [PyProof.Rows.bitAnd_m1, Int.toNat_natCast]
  have e : ((b : Int) / 2 ^ i) % 2 = ((b / 2 ^ i % 2 : Nat) : Int) := by simp
  rw [e, Nat.testBit_eq_decide_div_mod_eq]
  rcases Nat.mod_two_eq_zero_or_one (b / 2 ^ i) with h | h <;> simp [h]
end Mir

namespace Mir
open PySem L2 Pl
section
variable {i j : Int} {a b n : Nat} {x y : List Nat} {xs ys : List P} {p q : P}
theorem op_addN : pAdd (.int (a : Int)) (.int (b : Int)) = some (.int ((a + b : Nat) : Int)) := by
  rw [pAdd_int, Int.natCast_add]
theorem op_addN1 : pAdd (.int (a : Int)) (.int 1) = some (.int ((a + 1 : Nat) : Int)) := rfl
theorem op_add1N : pAdd (.int 1) (.int (a : Int)) = some (.int ((1 + a : Nat) : Int)) := by
  rw [pAdd_int, Int.natCast_add]
  rfl
theorem op_add : pAdd (.int i) (.int j) = some (.int (i + j)) := rfl
theorem op_addS (h : x.length + y.length ≤ 100000) : pAdd (.str x) (.str y) = some (.str (x ++ y)) := by
  rw [pAdd_str, if_pos h]
theorem op_addL (h : xs.length + ys.length ≤ 100000) : pAdd (.lst xs) (.lst ys) = some (.lst (xs ++ ys)) := by
  rw [pAdd_lst, if_pos h]
theorem op_addT (h : xs.length + ys.length ≤ 100000) : pAdd (.tup xs) (.tup ys) = some (.tup (xs ++ ys)) := by
  rw [pAdd_tup, if_pos h]
theorem op_addLm {A : Type} {us ws : List A} {f : A → P} (h : us.length + ws.length ≤ 100000) : pAdd (.lst (us.map f)) (.lst (ws.map f)) = some (.lst ((us ++ ws).map f)) := by
  rw [op_addL (by rw [List.length_map, List.length_map]; exact h), List.map_append]
theorem op_addTm {A : Type} {us ws : List A} {f : A → P} (h : us.length + ws.length ≤ 100000) : pAdd (.tup (us.map f)) (.tup (ws.map f)) = some (.tup ((us ++ ws).map f)) := by
  rw [op_addT (by rw [List.length_map, List.length_map]; exact h), List.map_append]
theorem op_pI {g : Int → Int → Int} : pI g (.int i) (.int j) = some (.int (g i j)) := rfl
theorem op_pIB {g : Int → Int → Bool} : pIB g (.int i) (.int j) = some (.bl (g i j)) := rfl
theorem op_band : pI (fun i j => Builtin.bitAnd i j) (.int (a : Int)) (.int (b : Int)) = some (.int ((a &&& b : Nat) : Int)) := by
  rw [pI_int, band_nat]
theorem op_bandnot : pI (fun i j => Builtin.bitAnd i j) (.int (a : Int)) (.int (Builtin.bitNot (b : Int))) = some (.int ((a - (a &&& b) : Nat) : Int)) := by
  rw [pI_int, band_not]
theorem op_inv : pInv (.int i) = some (.int (Builtin.bitNot i)) := rfl
theorem op_shl (h : a ≤ 1000) : pIC bPow (fun i j => i * 2 ^ j.toNat) (.int 1) (.int (a : Int)) = some (.int ((2 ^ a : Nat) : Int)) := by
  have h1 : bPow 1 (a : Int) = true := by
    unfold bPow
    rw [decide_eq_true (show (0 : Int) ≤ (a : Int) by omega), decide_eq_true (show (a : Int) ≤ 1000000 by omega)]
    rfl
  rw [pIC_int, h1, if_pos rfl, Int.toNat_natCast, Int.one_mul]
  congr 2
theorem op_shr : pIC bShr (fun i j => i / 2 ^ j.toNat) (.int (a : Int)) (.int (b : Int)) = some (.int ((a / 2 ^ b : Nat) : Int)) := by
  have h1 : bShr (a : Int) (b : Int) = true := decide_eq_true (by omega)
  rw [pIC_int, h1, if_pos rfl, Int.toNat_natCast]
  simp
theorem op_and1 : pI (fun i j => Builtin.bitAnd i j) (.int ((a / 2 ^ b : Nat) : Int)) (.int 1) = some (.int (((a.testBit b).toNat : Nat) : Int)) := by
  rw [pI_int]
  have := shr_test a b
  rw [Int.toNat_natCast] at this
  have e : ((a / 2 ^ b : Nat) : Int) = (a : Int) / 2 ^ b := by simp
  rw [e, this]
  cases a.testBit b <;> rfl
theorem op_eqB1 {t : Bool} : pEq (.int ((t.toNat : Nat) : Int)) (.int 1) = some (.bl t) := by cases t <;> rfl
theorem op_eqB0 {t : Bool} : pEq (.int ((t.toNat : Nat) : Int)) (.int 0) = some (.bl (!t)) := by cases t <;> rfl
theorem op_eqN : pEq (.int (a : Int)) (.int (b : Int)) = some (.bl (a == b)) := by
  rw [pEq_int]
  congr 2
  rw [Bool.eq_iff_iff, beq_iff_eq, beq_iff_eq]
  omega
theorem op_neN : pNe (.int (a : Int)) (.int (b : Int)) = some (.bl (!(a == b))) := by
  rw [pNe_int]
  congr 3
  rw [Bool.eq_iff_iff, beq_iff_eq, beq_iff_eq]
  omega
theorem op_eqN0 : pEq (.int (a : Int)) (.int 0) = some (.bl (a == 0)) := op_eqN (b := 0)
theorem op_neN0 : pNe (.int (a : Int)) (.int 0) = some (.bl (!(a == 0))) := op_neN (b := 0)
theorem op_eqI : pEq (.int i) (.int j) = some (.bl (i == j)) := rfl
theorem op_neI : pNe (.int i) (.int j) = some (.bl (!(i == j))) := rfl
theorem op_ltN : pIB (fun i j => decide (i < j)) (.int (a : Int)) (.int (b : Int)) = some (.bl (decide (a < b))) := by
  rw [pIB_int]
  congr 2
  rw [Bool.eq_iff_iff, decide_eq_true_eq, decide_eq_true_eq]
  omega
theorem op_leN : pIB (fun i j => decide (i ≤ j)) (.int (a : Int)) (.int (b : Int)) = some (.bl (decide (a ≤ b))) := by
  rw [pIB_int]
  congr 2
  rw [Bool.eq_iff_iff, decide_eq_true_eq, decide_eq_true_eq]
  omega
theorem op_gtN : pIB (fun i j => decide (j < i)) (.int (a : Int)) (.int (b : Int)) = some (.bl (decide (b < a))) := by
  rw [pIB_int]
  congr 2
  rw [Bool.eq_iff_iff, decide_eq_true_eq, decide_eq_true_eq]
  omega
theorem op_geN : pIB (fun i j => decide (j ≤ i)) (.int (a : Int)) (.int (b : Int)) = some (.bl (decide (b ≤ a))) := by
  rw [pIB_int]
  congr 2
  rw [Bool.eq_iff_iff, decide_eq_true_eq, decide_eq_true_eq]
  omega
theorem op_eqD (h : p.dat 60 = true) (h2 : q.dat 60 = true) : pEq p q = some (.bl (p.eqv q)) := by
  unfold pEq
  rw [h, h2]
  rfl
theorem op_neD (h : p.dat 60 = true) (h2 : q.dat 60 = true) : pNe p q = some (.bl (!p.eqv q)) := by
  unfold pNe
  rw [h, h2]
  rfl
def asc (x : List Nat) : Bool := x.all fun c => decide (c < 128)
theorem op_eqS (h : asc x = true) (h2 : asc y = true) : pEq (.str x) (.str y) = some (.bl (x == y)) := op_eqD (p := .str x) (q := .str y) h h2
theorem op_neS (h : asc x = true) (h2 : asc y = true) : pNe (.str x) (.str y) = some (.bl (!(x == y))) := op_neD (p := .str x) (q := .str y) h h2
theorem eqvL_txt : ∀ {l m : List (List Nat)}, eqvL (l.map P.str) (m.map P.str) = (l == m)
  | [], [] => rfl
  | [], _ :: _ => rfl
  | _ :: _, [] => rfl
  | a :: l, b :: m => by
    show (a == b && eqvL (l.map P.str) (m.map P.str)) = _
    rw [eqvL_txt]
    rfl
theorem eqvL_num : ∀ {l m : List Nat}, eqvL (l.map fun (e : Nat) => P.int (e : Int)) (m.map fun (e : Nat) => P.int (e : Int)) = (l == m)
  | [], [] => rfl
  | [], _ :: _ => rfl
  | _ :: _, [] => rfl
  | a :: l, b :: m => by
    show ((a : Int) == (b : Int) && eqvL (l.map fun (e : Nat) => P.int (e : Int)) (m.map fun (e : Nat) => P.int (e : Int))) = _
    rw [eqvL_num, List.cons_beq_cons]
    congr 1
    rw [Bool.eq_iff_iff, beq_iff_eq, beq_iff_eq]
    omega
theorem datL_of {A : Type} {f : A → P} {m : Nat} : ∀ {l : List A}, (∀ x ∈ l, (f x).dat m = true) → datL (l.map f) m = true
  | [], _ => rfl
  | a :: l, h => by
    show ((f a).dat m && datL (l.map f) m) = true
    rw [h a List.mem_cons_self, datL_of fun x hx => h x (List.mem_cons_of_mem _ hx)]
    rfl
theorem op_eqTS {l m : List (List Nat)} (h : ∀ x ∈ l, asc x = true) (h2 : ∀ x ∈ m, asc x = true) : pEq (.tup (l.map P.str)) (.tup (m.map P.str)) = some (.bl (l == m)) := by
  rw [op_eqD (p := .tup (l.map P.str)) (q := .tup (m.map P.str)) (datL_of h) (datL_of h2)]
  show some (P.bl (eqvL _ _)) = _
  rw [eqvL_txt]
theorem op_neTS {l m : List (List Nat)} (h : ∀ x ∈ l, asc x = true) (h2 : ∀ x ∈ m, asc x = true) : pNe (.tup (l.map P.str)) (.tup (m.map P.str)) = some (.bl (!(l == m))) := by
  rw [op_neD (p := .tup (l.map P.str)) (q := .tup (m.map P.str)) (datL_of h) (datL_of h2)]
  show some (P.bl (!eqvL _ _)) = _
  rw [eqvL_txt]
theorem eqvL_nil {l : List P} : eqvL l [] = l.isEmpty := by cases l <;> rfl
theorem op_neL0 {A : Type} {l : List A} {f : A → P} (h : ∀ x ∈ l, (f x).dat 59 = true) : pNe (.lst (l.map f)) (.lst []) = some (.bl (!l.isEmpty)) := by
  rw [op_neD (p := .lst (l.map f)) (q := .lst []) (datL_of h) rfl]
  show some (P.bl (!eqvL _ [])) = _
  rw [eqvL_nil]
  cases l <;> rfl
theorem op_eqL0 {A : Type} {l : List A} {f : A → P} (h : ∀ x ∈ l, (f x).dat 59 = true) : pEq (.lst (l.map f)) (.lst []) = some (.bl l.isEmpty) := by
  rw [op_eqD (p := .lst (l.map f)) (q := .lst []) (datL_of h) rfl]
  show some (P.bl (eqvL _ [])) = _
  rw [eqvL_nil]
  cases l <;> rfl
theorem op_neT0 {A : Type} {l : List A} {f : A → P} (h : ∀ x ∈ l, (f x).dat 59 = true) : pNe (.tup (l.map f)) (.tup []) = some (.bl (!l.isEmpty)) := by
  rw [op_neD (p := .tup (l.map f)) (q := .tup []) (datL_of h) rfl]
  show some (P.bl (!eqvL _ [])) = _
  rw [eqvL_nil]
  cases l <;> rfl
theorem op_eqT0 {A : Type} {l : List A} {f : A → P} (h : ∀ x ∈ l, (f x).dat 59 = true) : pEq (.tup (l.map f)) (.tup []) = some (.bl l.isEmpty) := by
  rw [op_eqD (p := .tup (l.map f)) (q := .tup []) (datL_of h) rfl]
  show some (P.bl (eqvL _ [])) = _
  rw [eqvL_nil]
  cases l <;> rfl

theorem flat_map {A : Type} {l : List A} {f : A → P} (h : ∀ x, flatP (f x) = true) : (l.map f).all flatP = true := by
  rw [List.all_map, List.all_eq_true]
  exact fun x _ => h x
theorem inP_strs {A : Type} {l : List A} {f : A → List Nat} : inP (.str x) (l.map fun z => P.str (f z)) = (l.map f).contains x := by
  induction l with
  | nil => rfl
  | cons z l ih =>
    show ((f z == x) || inP (.str x) (l.map fun z => P.str (f z))) = _
    rw [ih, List.map_cons, List.contains_cons]
    congr 1
    rw [Bool.eq_iff_iff, beq_iff_eq, beq_iff_eq]
    exact eq_comm
theorem inP_ns {A : Type} {l : List A} {f : A → Nat} : inP (.int (a : Int)) (l.map fun z => P.int ((f z : Nat) : Int)) = (l.map f).contains a := by
  induction l with
  | nil => rfl
  | cons z l ih =>
    show (((f z : Nat) : Int) == (a : Int) || inP (.int (a : Int)) (l.map fun z => P.int ((f z : Nat) : Int))) = _
    rw [ih, List.map_cons, List.contains_cons]
    congr 1
    rw [Bool.eq_iff_iff, beq_iff_eq, beq_iff_eq]
    omega
theorem pIn2_of {p q : P} {t : Bool} (h : pIn p q = some (.bl t)) : pIn2 p q = some (.bl t) := by
  unfold pIn2
  rw [h]
theorem pNotIn2_of {p q : P} {t : Bool} (h : pIn p q = some (.bl t)) : pNotIn2 p q = some (.bl (!t)) := by
  unfold pNotIn2 pNotIn
  rw [h]
theorem pin_l {p : P} {xs : List P} (h : flatP p = true) (h2 : xs.all flatP = true) : pIn p (.lst xs) = some (.bl (inP p xs)) := by
  unfold pIn
  dsimp only
  rw [h, h2]
  rfl
theorem pin_t {p : P} {xs : List P} (h : flatP p = true) (h2 : xs.all flatP = true) : pIn p (.tup xs) = some (.bl (inP p xs)) := by
  unfold pIn
  dsimp only
  rw [h, h2]
  rfl
section
variable {A : Type} {l : List A} {f : A → List Nat} {g : A → Nat}
theorem op_inSL : pIn2 (.str x) (.lst (l.map fun z => P.str (f z))) = some (.bl ((l.map f).contains x)) := pIn2_of ((pin_l rfl (flat_map fun _ => rfl)).trans (by rw [inP_strs]))
theorem op_inST : pIn2 (.str x) (.tup (l.map fun z => P.str (f z))) = some (.bl ((l.map f).contains x)) := pIn2_of ((pin_t rfl (flat_map fun _ => rfl)).trans (by rw [inP_strs]))
theorem op_inNL : pIn2 (.int (a : Int)) (.lst (l.map fun z => P.int ((g z : Nat) : Int))) = some (.bl ((l.map g).contains a)) := pIn2_of ((pin_l rfl (flat_map fun _ => rfl)).trans (by rw [inP_ns]))
theorem op_niSL : pNotIn2 (.str x) (.lst (l.map fun z => P.str (f z))) = some (.bl (!(l.map f).contains x)) := pNotIn2_of ((pin_l rfl (flat_map fun _ => rfl)).trans (by rw [inP_strs]))
theorem op_niST : pNotIn2 (.str x) (.tup (l.map fun z => P.str (f z))) = some (.bl (!(l.map f).contains x)) := pNotIn2_of ((pin_t rfl (flat_map fun _ => rfl)).trans (by rw [inP_strs]))
theorem op_niNL : pNotIn2 (.int (a : Int)) (.lst (l.map fun z => P.int ((g z : Nat) : Int))) = some (.bl (!(l.map g).contains a)) := pNotIn2_of ((pin_l rfl (flat_map fun _ => rfl)).trans (by rw [inP_ns]))
end
theorem op_inSL' {l : List (List Nat)} : pIn2 (.str x) (.lst (l.map P.str)) = some (.bl (l.contains x)) := by
  have := op_inSL (x := x) (l := l) (f := id)
  rw [List.map_id] at this
  exact this
theorem op_inST' {l : List (List Nat)} : pIn2 (.str x) (.tup (l.map P.str)) = some (.bl (l.contains x)) := by
  have := op_inST (x := x) (l := l) (f := id)
  rw [List.map_id] at this
  exact this
theorem op_inNL' {l : List Nat} : pIn2 (.int (a : Int)) (.lst (l.map fun (z : Nat) => P.int (z : Int))) = some (.bl (l.contains a)) := by
  have := op_inNL (a := a) (l := l) (g := id)
  rw [List.map_id] at this
  exact this
theorem op_niSL' {l : List (List Nat)} : pNotIn2 (.str x) (.lst (l.map P.str)) = some (.bl (!l.contains x)) := by
  have := op_niSL (x := x) (l := l) (f := id)
  rw [List.map_id] at this
  exact this
theorem op_niST' {l : List (List Nat)} : pNotIn2 (.str x) (.tup (l.map P.str)) = some (.bl (!l.contains x)) := by
  have := op_niST (x := x) (l := l) (f := id)
  rw [List.map_id] at this
  exact this
theorem op_niNL' {l : List Nat} : pNotIn2 (.int (a : Int)) (.lst (l.map fun (z : Nat) => P.int (z : Int))) = some (.bl (!l.contains a)) := by
  have := op_niNL (a := a) (l := l) (g := id)
  rw [List.map_id] at this
  exact this

theorem op_lenL : pLen [.lst xs] = some (.int ((xs.length : Nat) : Int)) := rfl
theorem op_lenT : pLen [.tup xs] = some (.int ((xs.length : Nat) : Int)) := rfl
theorem op_lenLm {A : Type} {l : List A} {f : A → P} : pLen [.lst (l.map f)] = some (.int ((l.length : Nat) : Int)) := by
  rw [op_lenL, List.length_map]
theorem op_lenTm {A : Type} {l : List A} {f : A → P} : pLen [.tup (l.map f)] = some (.int ((l.length : Nat) : Int)) := by
  rw [op_lenT, List.length_map]
theorem op_lenS (h : x.length ≤ 100000) : pLen [.str x] = some (.int ((x.length : Nat) : Int)) := by
  rw [pLen_str, if_pos h]
theorem op_tupL : pTuple [.lst xs] = some (.tup xs) := rfl
theorem op_tupT : pTuple [.tup xs] = some (.tup xs) := rfl
theorem op_lstL : pList [.lst xs] = some (.lst xs) := rfl
theorem op_lstT : pList [.tup xs] = some (.lst xs) := rfl
theorem intsOf_m {A : Type} {l : List A} {f : A → Int} : intsOf (l.map fun z => P.int (f z)) = some (l.map f) := by
  induction l with
  | nil => rfl
  | cons a l ih =>
    show (intsOf (l.map fun z => P.int (f z))).map (f a :: ·) = _
    rw [ih]
    rfl
theorem blsOf_m {A : Type} {l : List A} {f : A → Bool} : blsOf (l.map fun z => P.bl (f z)) = some (l.map f) := by
  induction l with
  | nil => rfl
  | cons a l ih =>
    show (blsOf (l.map fun z => P.bl (f z))).map (f a :: ·) = _
    rw [ih]
    rfl
theorem sum_natm {A : Type} (l : List A) (f : A → Nat) : (l.map fun z => ((f z : Nat) : Int)).sum = (((l.map f).sum : Nat) : Int) := by
  induction l with
  | nil => rfl
  | cons a l ih =>
    rw [List.map_cons, List.sum_cons, ih, List.map_cons, List.sum_cons]
    omega
theorem op_sum {A : Type} {l : List A} {f : A → Nat} : pSum [.lst (l.map fun z => P.int ((f z : Nat) : Int))] = some (.int (((l.map f).sum : Nat) : Int)) := by
  show (intsOf (l.map fun z => P.int ((f z : Nat) : Int))).map _ = _
  rw [intsOf_m (f := fun z => ((f z : Nat) : Int))]
  show some (P.int _) = _
  rw [sum_natm]
theorem op_all {A : Type} {l : List A} {f : A → Bool} : pAll [.lst (l.map fun z => P.bl (f z))] = some (.bl (l.all f)) := by
  show (blsOf (l.map fun z => P.bl (f z))).map _ = _
  rw [blsOf_m]
  show some (P.bl ((l.map f).all id)) = _
  rw [List.all_map]
  rfl
theorem op_any {A : Type} {l : List A} {f : A → Bool} : pAny [.lst (l.map fun z => P.bl (f z))] = some (.bl (l.any f)) := by
  show (blsOf (l.map fun z => P.bl (f z))).map _ = _
  rw [blsOf_m]
  show some (P.bl ((l.map f).any id)) = _
  rw [List.any_map]
  rfl

theorem at_m0 {A : Type} {l : List A} {f : A → P} [Inhabited A] (h : a < l.length) : atI (l.map f) (a : Int) = some (f (l.getD a default)) := by
  refine atN ?_
  rw [List.getElem?_map, List.getElem?_eq_getElem h]
  simp [h]
theorem at_ms {A : Type} {l : List (List A)} {f : List A → P} (h : a < l.length) : atI (l.map f) (a : Int) = some (f (l.getD a [])) := at_m0 h
theorem at_mn {l : List Nat} {f : Nat → P} (h : a < l.length) : atI (l.map f) (a : Int) = some (f (l.getD a 0)) := at_m0 h
theorem ix_ls {A : Type} {l : List (List A)} {f : List A → P} (h : a < l.length) : pIx (.lst (l.map f)) (.int (a : Int)) = some (f (l.getD a [])) := at_ms h
theorem ix_ln {l : List Nat} {f : Nat → P} (h : a < l.length) : pIx (.lst (l.map f)) (.int (a : Int)) = some (f (l.getD a 0)) := at_mn h
theorem ix_lm {A : Type} {l : List A} {f : A → P} [Inhabited A] (h : a < l.length) : pIx (.lst (l.map f)) (.int (a : Int)) = some (f (l.getD a default)) := at_m0 h
theorem ix_ts {A : Type} {l : List (List A)} {f : List A → P} (h : a < l.length) : pIx (.tup (l.map f)) (.int (a : Int)) = some (f (l.getD a [])) := at_ms h
theorem ix_l0 : pIx (.lst (p :: xs)) (.int 0) = some p := atI_0 _ _
theorem ix_l1 {p2 : P} : pIx (.lst (p :: p2 :: xs)) (.int 1) = some p2 := atI_1 _ _ _
theorem ix_l2 {p2 p3 : P} : pIx (.lst (p :: p2 :: p3 :: xs)) (.int 2) = some p3 := atI_2 _ _ _ _
theorem atI_3 {A : Type} (x y z w : A) (xs : List A) : atI (x :: y :: z :: w :: xs) 3 = some w := atN (i := 3) rfl
theorem ix_l3 {p2 p3 p4 : P} : pIx (.lst (p :: p2 :: p3 :: p4 :: xs)) (.int 3) = some p4 := atI_3 _ _ _ _ _
theorem ix_t0 : pIx (.tup (p :: xs)) (.int 0) = some p := atI_0 _ _
theorem ix_t1 {p2 : P} : pIx (.tup (p :: p2 :: xs)) (.int 1) = some p2 := atI_1 _ _ _
theorem ix_t2 {p2 p3 : P} : pIx (.tup (p :: p2 :: p3 :: xs)) (.int 2) = some p3 := atI_2 _ _ _ _
theorem ix_t3 {p2 p3 p4 : P} : pIx (.tup (p :: p2 :: p3 :: p4 :: xs)) (.int 3) = some p4 := atI_3 _ _ _ _ _
theorem fr_p {S : Sto} : frz (.p p) S = .ok p S := frz_p _ _
end
mutual
theorem P.eqv_self : ∀ (x : P) (m : Nat), x.dat m = true → x.eqv x = true
  | .non, _, _ => rfl
  | .bl b, _, _ => by show (b == b) = true; simp
  | .int i, _, _ => by show (i == i) = true; simp
  | .str x, _, _ => by show (x == x) = true; simp
  | .lst xs, 0, h => by cases h
  | .lst xs, m + 1, h => eqvL_self xs m h
  | .tup xs, 0, h => by cases h
  | .tup xs, m + 1, h => eqvL_self xs m h
  | .dct _ _, _, h => by cases h
  | .obj _ _ _, _, h => by cases h
  | .ty _, _, h => by cases h
  | .glo _, _, h => by cases h
  | .raw _, _, h => by cases h
  | .rwp _ _, _, h => by cases h
  | .scr _, _, h => by cases h
theorem eqvL_self : ∀ (xs : List P) (m : Nat), datL xs m = true → eqvL xs xs = true
  | [], _, _ => rfl
  | x :: xs, m, h => by
    have h : (x.dat m && datL xs m) = true := h
    rw [Bool.and_eq_true] at h
    show (x.eqv x && eqvL xs xs) = true
    rw [P.eqv_self x m h.1, eqvL_self xs m h.2]
    rfl
end
theorem op_eqX {x : P} (h : x.dat 60 = true) : pEq x x = some (.bl true) := by
  rw [op_eqD h h, P.eqv_self x 60 h]
theorem op_neX {x : P} (h : x.dat 60 = true) : pNe x x = some (.bl false) := by
  rw [op_neD h h, P.eqv_self x 60 h]
  rfl
end Mir

namespace Mir
open PySem L2
def WS (r : RF) (Q : Fl → Sto → Prop) : Prop := ∃ f S, r = .ok f S ∧ Q f S
section
variable {ρ ρ1 ρ2 : En} {S S1 S2 S3 : Sto} {a b c : ME} {t u : MT} {m r : MA} {s s' : MS} {x y z w : P} {d e v : Vl} {ds es : List Vl} {xs ys : List P} {Q : Fl → Sto → Prop}
theorem ws_of {f : Fl} (h : s ρ S = .ok f S1) (q : Q f S1) : WS (s ρ S) Q := ⟨f, S1, h, q⟩
theorem ws_seq (h : s ρ S = .ok (.nx ρ1) S1) (q : WS (s' ρ1 S1) Q) : WS (sSeq s s' ρ S) Q := by
  obtain ⟨f, S2, e, q⟩ := q
  exact ⟨f, S2, ev_seq h (thn_n e), q⟩
theorem ws_seqW (h : WS (s ρ S) fun f S1 => ∃ ρ1, f = .nx ρ1 ∧ WS (s' ρ1 S1) Q) : WS (sSeq s s' ρ S) Q := by
  obtain ⟨f, S1, e1, ρ1, rfl, f, S2, e, q⟩ := h
  exact ⟨f, S2, ev_seq e1 (thn_n e), q⟩
theorem ws_for {it : MI} {g : MG} (I : Nat → En → Sto → Prop) (hi : it ρ S = .ok xs S1) (h0 : I 0 ρ S1)
    (hs : ∀ i x ρ S, xs[i]? = some x → I i ρ S → ∃ ρ1 S1, g (.p x) ρ S = .ok ρ1 S1 ∧ WS (s ρ1 S1) fun f S2 => ∃ ρ2, (f = .nx ρ2 ∨ f = .ct ρ2) ∧ I (i + 1) ρ2 S2)
    (hq : ∀ ρ' S', I xs.length ρ' S' → Q (.nx ρ') S') : WS (sFor it g s ρ S) Q := by
  have key : ∀ (zs : List P) (k : Nat) (ρ : En) (S : Sto), xs.drop k = zs → I k ρ S → ∃ ρ' S', forGo g s zs ρ S = .ok (.nx ρ') S' ∧ I (k + zs.length) ρ' S' := by
    intro zs
    induction zs with
    | nil => exact fun k ρ S _ h => ⟨ρ, S, rfl, h⟩
    | cons z zs ih =>
      intro k ρ S hd h
      have hz : xs[k]? = some z := by
        have := congrArg (fun l : List P => l[0]?) hd
        simpa using this
      have hd2 : xs.drop (k + 1) = zs := by
        rw [← List.drop_drop, hd]
        rfl
      obtain ⟨ρ1, S1, e1, f, S2, e2, ρ2, e3, h2⟩ := hs k z ρ S hz h
      obtain ⟨ρ', S', e4, h4⟩ := ih (k + 1) ρ2 S2 hd2 h2
      refine ⟨ρ', S', ?_, by rw [List.length_cons, show k + (zs.length + 1) = k + 1 + zs.length by omega]; exact h4⟩
      rw [forGo_cons, e1, nox_ok, go_ok, e2]
      rcases e3 with rfl | rfl <;> exact e4
  obtain ⟨ρ', S', e, h⟩ := key xs 0 ρ S1 rfl h0
  rw [Nat.zero_add] at h
  exact ⟨.nx ρ', S', by rw [sFor_eq, hi, go_ok, e], hq ρ' S' h⟩
theorem ws_forM {A : Type} {it : MI} {g : MG} {us : List A} {en : A → P} (I : Nat → En → Sto → Prop) (hi : it ρ S = .ok (us.map en) S1) (h0 : I 0 ρ S1)
    (hs : ∀ i u ρ S, us[i]? = some u → I i ρ S → ∃ ρ1 S1, g (.p (en u)) ρ S = .ok ρ1 S1 ∧ WS (s ρ1 S1) fun f S2 => ∃ ρ2, (f = .nx ρ2 ∨ f = .ct ρ2) ∧ I (i + 1) ρ2 S2)
    (hq : ∀ ρ' S', I us.length ρ' S' → Q (.nx ρ') S') : WS (sFor it g s ρ S) Q := by
  refine ws_for I hi h0 (fun i x ρ S hx hI => ?_) fun ρ' S' h => hq ρ' S' (by rw [List.length_map] at h; exact h)
  rw [List.getElem?_map] at hx
  cases hu : us[i]? with
  | none => rw [hu] at hx; cases hx
  | some u =>
    rw [hu] at hx
    cases hx
    exact hs i u ρ S hu hI
theorem ws_rng {it : MI} {g : MG} {n : Nat} (I : Nat → En → Sto → Prop) (hi : it ρ S = .ok ((List.range n).map fun (k : Nat) => P.int (k : Int)) S1) (h0 : I 0 ρ S1)
    (hs : ∀ i ρ S, i < n → I i ρ S → ∃ ρ1 S1, g (.p (.int (i : Int))) ρ S = .ok ρ1 S1 ∧ WS (s ρ1 S1) fun f S2 => ∃ ρ2, (f = .nx ρ2 ∨ f = .ct ρ2) ∧ I (i + 1) ρ2 S2)
    (hq : ∀ ρ' S', I n ρ' S' → Q (.nx ρ') S') : WS (sFor it g s ρ S) Q := by
  refine ws_forM I hi h0 (fun i u ρ S hu hI => ?_) fun ρ' S' h => hq ρ' S' (by rw [List.length_range] at h; exact h)
  have hin : i < n := by
    have := (List.getElem?_eq_some_iff.mp hu).1
    rwa [List.length_range] at this
  rw [List.getElem?_range hin] at hu
  cases hu
  exact hs i ρ S hin hI
theorem ws_mkF {n k : Nat} {body : MS} {R : Vl → Sto → Prop} (hl : ds.length = n) (hρ : ds.map some ++ List.replicate k none = ρ) (h : WS (body ρ S) fun f S1 => ∃ v S', endF S.length (.ok f S1) = .ok v S' ∧ R v S') : ∃ v S', mkF n k body ds S = .ok v S' ∧ R v S' := by
  obtain ⟨f, S1, e, v, S', e2, r⟩ := h
  exact ⟨v, S', ev_mkF hl hρ e e2, r⟩
theorem ws_mkFe {n k : Nat} {body : MS} {o : Res Vl} (hl : ds.length = n) (hρ : ds.map some ++ List.replicate k none = ρ) (h : WS (body ρ S) fun f S1 => endF S.length (.ok f S1) = o) : mkF n k body ds S = o := by
  obtain ⟨f, S1, e, e2⟩ := h
  exact ev_mkF hl hρ e e2
end
end Mir

namespace Mir
open PySem L2
section
variable {ρ ρ0 ρ1 ρ2 : En} {S S1 S2 S3 : Sto} {a b c : ME} {t u : MT} {m r : MA} {s s' : MS} {x y z w : P} {d e v : Vl} {ds es : List Vl} {xs ys : List P}
theorem rng_1 : itRange1 (eC (.int 1)) ρ S = .ok [.int 0] S := rfl
theorem rng_2 : itRange1 (eC (.int 2)) ρ S = .ok [.int 0, .int 1] S := rfl
theorem rng_3 : itRange1 (eC (.int 3)) ρ S = .ok [.int 0, .int 1, .int 2] S := rfl
theorem rng_4 : itRange1 (eC (.int 4)) ρ S = .ok [.int 0, .int 1, .int 2, .int 3] S := rfl
theorem rng_5 : itRange1 (eC (.int 5)) ρ S = .ok [.int 0, .int 1, .int 2, .int 3, .int 4] S := rfl
theorem rng_6 : itRange1 (eC (.int 6)) ρ S = .ok [.int 0, .int 1, .int 2, .int 3, .int 4, .int 5] S := rfl
theorem rng_8 : itRange1 (eC (.int 8)) ρ S = .ok [.int 0, .int 1, .int 2, .int 3, .int 4, .int 5, .int 6, .int 7] S := rfl
theorem lcx_s {g : MG} {q : Bool} (hg : g (.p x) ρ S = .ok ρ1 S) (ht : t ρ1 S = .ok q S) (ha : q = true → a ρ1 S = .ok (.p y) S) (hr : lcGo g t a ρ xs S = .ok ys S) : lcGo g t a ρ (x :: xs) S = .ok ((if q then [y] else []) ++ ys) S := by
  cases q with
  | false =>
    unfold lcGo
    rw [hg, nox_ok, bind_ok, ht, nox_ok, bind_ok]
    exact hr
  | true =>
    unfold lcGo
    rw [hg, nox_ok, bind_ok, ht, nox_ok, bind_ok]
    dsimp only
    rw [ha rfl, nox_ok, bind_ok, frz_p, bind_ok, hr, bind_ok]
    rfl

theorem ev_forx {it : MI} {g : MG} {o : RF} (hi : it ρ S = .ok xs S1) (hg : forGo g s xs ρ S1 = o) : sFor it g s ρ S = o := by
  rw [sFor_eq, hi, go_ok, hg]
theorem forx_nil {g : MG} : forGo g s [] ρ S = .ok (.nx ρ) S := rfl
theorem forx_cons {g : MG} {o : RF} (hg : g (.p x) ρ S = .ok ρ1 S1) (hs : s ρ1 S1 = .ok (.nx ρ2) S2) (hr : forGo g s xs ρ2 S2 = o) : forGo g s (x :: xs) ρ S = o := by
  rw [forGo_cons, hg, nox_ok, go_ok, hs]
  exact hr
theorem ev_enumN {ls : List Nat} {f : Nat → P} (ha : a ρ S = .ok (.p (.lst (ls.map f))) S1) : itEnum a ρ S = .ok ((List.range ls.length).map fun (i : Nat) => P.tup [.int (i : Int), f (ls.getD i 0)]) S1 := ev_enum_map ha
theorem ev_enumS {B : Type} {ls : List (List B)} {f : List B → P} (ha : a ρ S = .ok (.p (.lst (ls.map f))) S1) : itEnum a ρ S = .ok ((List.range ls.length).map fun (i : Nat) => P.tup [.int (i : Int), f (ls.getD i [])]) S1 := ev_enum_map ha
theorem isi_t {cs : List PySem.Str} {T : Tg} (h : isT cs T y = some true) : isT cs T y = some true := h
theorem isi_f {cs : List PySem.Str} {T : Tg} (h : isT cs T y = some false) : isT cs T y = some false := h

theorem lcGo2_gen {A B : Type} {g : MG} {it1 : MI} {vs1 : List Nat} {g1 : MG} {t1 : MT} {en : A → P} {q : A → Bool} {ρ1 : A → En} {us : A → List B} {en1 : A → B → P} {ρ1' : A → En} {ρ2 : A → B → En} {q1 : A → B → Bool} {f : A → B → P} : ∀ (ls : List A),
    (∀ y ∈ ls, g (.p (en y)) ρ0 S = .ok (ρ1 y) S) → (∀ y ∈ ls, t (ρ1 y) S = .ok (q y) S) → (∀ y ∈ ls, q y = true → it1 (ρ1 y) S = .ok ((us y).map (en1 y)) S) → (∀ y ∈ ls, q y = true → (us y).length ≤ 4000) → (∀ y ∈ ls, wipeE (ρ1 y) vs1 = ρ1' y) →
    (∀ y ∈ ls, q y = true → ∀ z ∈ us y, g1 (.p (en1 y z)) (ρ1' y) S = .ok (ρ2 y z) S) → (∀ y ∈ ls, q y = true → ∀ z ∈ us y, t1 (ρ2 y z) S = .ok (q1 y z) S) → (∀ y ∈ ls, q y = true → ∀ z ∈ us y, q1 y z = true → a (ρ2 y z) S = .ok (.p (f y z)) S) →
    lcGo2 g t it1 vs1 g1 t1 a ρ0 (ls.map en) S = .ok ((ls.filter q).flatMap fun y => ((us y).filter (q1 y)).map (f y)) S
  | [], _, _, _, _, _, _, _, _ => rfl
  | y :: ls, h1, h2, h3, h4, h5, h6, h7, h8 => by
    have m0 : y ∈ y :: ls := List.mem_cons_self
    have ih := lcGo2_gen ls (fun z hz => h1 z (List.mem_cons_of_mem _ hz)) (fun z hz => h2 z (List.mem_cons_of_mem _ hz)) (fun z hz => h3 z (List.mem_cons_of_mem _ hz)) (fun z hz => h4 z (List.mem_cons_of_mem _ hz)) (fun z hz => h5 z (List.mem_cons_of_mem _ hz)) (fun z hz => h6 z (List.mem_cons_of_mem _ hz)) (fun z hz => h7 z (List.mem_cons_of_mem _ hz)) (fun z hz => h8 z (List.mem_cons_of_mem _ hz))
    rw [List.map_cons]
    unfold lcGo2
    rw [h1 y m0, nox_ok, bind_ok, h2 y m0, nox_ok, bind_ok]
    cases hq : q y with
    | false =>
      dsimp only
      rw [ih, List.filter_cons_of_neg (by rw [hq]; decide)]
    | true =>
      dsimp only
      rw [h3 y m0 hq, nox_ok, bind_ok, if_pos (by rw [List.length_map]; exact h4 y m0 hq), h5 y m0]
      rw [lcGo_gen (en1 y) (q1 y) (f y) (us y) fun z hz => ⟨ρ2 y z, h6 y m0 hq z hz, h7 y m0 hq z hz, h8 y m0 hq z hz⟩, bind_ok, ih, bind_ok, List.filter_cons_of_pos hq, List.flatMap_cons]
theorem ev_lc2 {A B : Type} {it : MI} {vs : List Nat} {g : MG} {it1 : MI} {vs1 : List Nat} {g1 : MG} {ls : List A} {en : A → P} {ρ1 : A → En} {us : A → List B} {en1 : A → B → P} {ρ1' : A → En} {ρ2 : A → B → En} {f : A → B → P} (hi : it ρ S = .ok (ls.map en) S1) (hl : ls.length ≤ 4000) (hw : wipeE ρ vs = ρ0)
    (hg : ∀ y, y ∈ ls → g (.p (en y)) ρ0 S1 = .ok (ρ1 y) S1) (hi1 : ∀ y, y ∈ ls → it1 (ρ1 y) S1 = .ok ((us y).map (en1 y)) S1) (hl1 : ∀ y, y ∈ ls → (us y).length ≤ 4000) (hw1 : ∀ y, y ∈ ls → wipeE (ρ1 y) vs1 = ρ1' y)
    (hg1 : ∀ y, y ∈ ls → ∀ z, z ∈ us y → g1 (.p (en1 y z)) (ρ1' y) S1 = .ok (ρ2 y z) S1) (he : ∀ y, y ∈ ls → ∀ z, z ∈ us y → a (ρ2 y z) S1 = .ok (.p (f y z)) S1) :
    eLc2 it vs g tsYes it1 vs1 g1 tsYes a ρ S = .ok (.p (.lst (ls.flatMap fun y => (us y).map (f y)))) S1 := by
  subst hw
  unfold eLc2
  rw [hi, bind_ok, if_pos (by rw [List.length_map]; exact hl)]
  have := lcGo2_gen (a := a) (t := tsYes) (t1 := tsYes) (q := fun _ => true) (q1 := fun _ _ => true) (it1 := it1) (vs1 := vs1) ls (fun y hy => hg y hy) (fun y hy => rfl) (fun y hy _ => hi1 y hy) (fun y hy _ => hl1 y hy) hw1 (fun y hy _ z hz => hg1 y hy z hz) (fun y hy _ z hz => rfl) (fun y hy _ z hz _ => he y hy z hz)
  rw [this, bind_ok]
  have e1 : ls.filter (fun _ => true) = ls := List.filter_eq_self.mpr fun _ _ => rfl
  have e2 : ∀ y, (us y).filter (fun _ => true) = us y := fun y => List.filter_eq_self.mpr fun _ _ => rfl
  simp only [e1, e2]
end
section
variable {p q : Bool} {x : P} {a : Nat} {xs : List P}
theorem op_eqB : pEq (.bl p) (.bl q) = some (.bl (p == q)) := rfl
theorem op_neB : pNe (.bl p) (.bl q) = some (.bl (!(p == q))) := rfl
theorem op_niB {A : Type} {l : List A} {f : A → Bool} : pNotIn2 (.bl false) (.lst (l.map fun z => P.bl (f z))) = some (.bl (l.all f)) := by
  have h : ∀ l : List A, inP (.bl false) (l.map fun z => P.bl (f z)) = !(l.all f) := by
    intro l
    induction l with
    | nil => rfl
    | cons z l ih =>
      show ((f z == false) || inP (.bl false) (l.map fun z => P.bl (f z))) = _
      rw [ih, List.all_cons]
      cases f z <;> rfl
  rw [pNotIn2_of (t := !(l.all f)) ((pin_l rfl (flat_map fun _ => rfl)).trans (by rw [h])), Bool.not_not]
theorem op_all2 {A B : Type} {l : List A} {us : A → List B} {f : A → B → Bool} : pAll [.lst (l.flatMap fun y => (us y).map fun z => P.bl (f y z))] = some (.bl (l.all fun y => (us y).all (f y))) := by
  have e : (l.flatMap fun y => (us y).map fun z => P.bl (f y z)) = (l.flatMap fun y => (us y).map (f y)).map P.bl := by
    rw [List.map_flatMap]
    simp [List.map_map, Function.comp_def]
  rw [e]
  have := op_all (l := l.flatMap fun y => (us y).map (f y)) (f := fun b => b)
  rw [this]
  congr 2
  rw [List.all_flatMap]
  simp [List.all_map, Function.comp_def]
theorem ix_l4 {p1 p2 p3 p4 p5 : P} : pIx (.lst (p1 :: p2 :: p3 :: p4 :: p5 :: xs)) (.int 4) = some p5 := atN (i := 4) rfl
theorem ix_l5 {p1 p2 p3 p4 p5 p6 : P} : pIx (.lst (p1 :: p2 :: p3 :: p4 :: p5 :: p6 :: xs)) (.int 5) = some p6 := atN (i := 5) rfl
theorem eqc_t {x y : P} (h : pEq x y = some (.bl true)) : pEq x y = some (.bl true) := h
theorem eqc_f {x y : P} (h : pEq x y = some (.bl false)) : pEq x y = some (.bl false) := h
theorem nec_t {x y : P} (h : pNe x y = some (.bl true)) : pNe x y = some (.bl true) := h
theorem nec_f {x y : P} (h : pNe x y = some (.bl false)) : pNe x y = some (.bl false) := h
theorem inc_t {x y : P} (h : pIn2 x y = some (.bl true)) : pIn2 x y = some (.bl true) := h
theorem inc_f {x y : P} (h : pIn2 x y = some (.bl false)) : pIn2 x y = some (.bl false) := h
theorem nic_t {x y : P} (h : pNotIn2 x y = some (.bl true)) : pNotIn2 x y = some (.bl true) := h
theorem nic_f {x y : P} (h : pNotIn2 x y = some (.bl false)) : pNotIn2 x y = some (.bl false) := h
theorem op_is {a b : Bool} : pIs (.bl a) (.bl b) = some (.bl (decide (a = b))) := rfl
theorem op_isNot {a b : Bool} : pIsNot (.bl a) (.bl b) = some (.bl (!decide (a = b))) := rfl
theorem ev_rgL {ρ : En} {S S1 : Sto} {m : ME} {n : Nat} (h : m ρ S = .ok (.p (.int (n : Int))) S1) (hn : n ≤ 100000) : eRgL m ρ S = .ok (.p (.lst ((List.range n).map fun (k : Nat) => P.int (k : Int)))) S1 := by
  unfold eRgL
  rw [h, bind_ok]
  dsimp only
  rw [if_pos ⟨by omega, by omega⟩, Int.toNat_natCast, rangeP_0]
end
end Mir

namespace Mir
open PySem L2
section
variable {a b : Nat} {x p : P} {xs : List P} {i : Int}
theorem op_sub1 (h : 1 ≤ a) : pI (fun i j => i - j) (.int (a : Int)) (.int 1) = some (.int ((a - 1 : Nat) : Int)) := by
  rw [pI_int]
  congr 2
  omega
theorem op_subN (h : b ≤ a) : pI (fun i j => i - j) (.int (a : Int)) (.int (b : Int)) = some (.int ((a - b : Nat) : Int)) := by
  rw [pI_int]
  congr 2
  omega
theorem op_modN (h : 0 < b) : pIC bMod (fun i j => i % j) (.int (a : Int)) (.int (b : Int)) = some (.int ((a % b : Nat) : Int)) := by
  have : bMod (a : Int) (b : Int) = true := bMod_of (by omega)
  rw [pIC_int, this, if_pos rfl, Int.natCast_emod]
theorem op_int : pInt [.int i] = some (.int i) := rfl
theorem op_neg1 : pNeg (.int 1) = some (.int (-1)) := rfl
theorem op_neg : pNeg (.int i) = some (.int (-i)) := rfl
theorem op_mul2 : pMul (.lst [x]) (.int 2) = some (.lst [x, x]) := rfl
theorem op_eqL1 {l : List Nat} : pEq (.lst (l.map fun (e : Nat) => P.int (e : Int))) (.lst [.int (a : Int)]) = some (.bl (l == [a])) := by
  rw [op_eqD (p := .lst (l.map fun (e : Nat) => P.int (e : Int))) (q := .lst [.int (a : Int)]) (datL_of fun _ _ => rfl) rfl]
  show some (P.bl (eqvL (l.map fun (e : Nat) => P.int (e : Int)) ([a].map fun (e : Nat) => P.int (e : Int)))) = _
  rw [eqvL_num]
theorem cutP_init {A : Type} (l : List A) : cutP l none (some (-1)) = l.dropLast := by
  unfold cutP
  have e0 : HT.sIx l.length 0 none = 0 := rfl
  have e1 : HT.sIx l.length l.length (some (-1)) = l.length - 1 := by
    unfold HT.sIx
    simp
    omega
  rw [e0, e1, List.drop_zero, Nat.sub_zero, List.dropLast_eq_take]
theorem op_init {A : Type} {l : List A} {f : A → P} : pSl none (some (-1)) (.lst (l.map f)) = some (.lst ((l.dropLast).map f)) := by
  show some (P.lst (cutP (l.map f) none (some (-1)))) = _
  rw [cutP_init, List.map_dropLast]
end
end Mir

namespace Mir
open PySem L2
mutual
def P.sz : P → Nat
  | .non => 4
  | .bl _ => 5
  | .int i => (Str.ofString (toString i)).length
  | .str x => 10 * x.length + 2
  | .lst xs => szL xs + 4
  | .tup xs => szL xs + 4
  | _ => 4
def szL : List P → Nat
  | [] => 0
  | x :: xs => x.sz + 2 + szL xs
end
theorem join_len (s : Str) : ∀ ts : List Str, (s.join ts).length ≤ (ts.map fun t => t.length + s.length).sum
  | [] => by
    rw [Str.join.eq_1]
    exact Nat.zero_le _
  | [t] => by
    rw [Str.join.eq_2]
    simp
  | t :: u :: r => by
    have ih := join_len s (u :: r)
    rw [Str.join.eq_3]
    · rw [List.map_cons, List.sum_cons]
      simp only [Str.length_append]
      omega
    all_goals simp
theorem listText_le (ts : List Str) : (listText ts).length ≤ (ts.map fun t => t.length + 2).sum + 4 := by
  have h := join_len (Str.ofString ", ") ts
  have e : (Str.ofString ", ").length = 2 := by decide
  have e1 : (Str.ofString "[").length = 1 := by decide
  have e2 : (Str.ofString "]").length = 1 := by decide
  rw [listText_eq_join]
  simp only [Str.length_append, e, e1, e2] at h ⊢
  omega
theorem tupleText_le (ts : List Str) : (tupleText ts).length ≤ (ts.map fun t => t.length + 2).sum + 4 := by
  have h := join_len (Str.ofString ", ") ts
  have e : (Str.ofString ", ").length = 2 := by decide
  have e1 : (Str.ofString "(").length = 1 := by decide
  have e2 : (Str.ofString (if (ts.length == 1) = true then ",)" else ")")).length ≤ 2 := by
    split <;> decide
  unfold tupleText
  simp only [Str.length_append, e, e1] at h ⊢
  omega
mutual
theorem shown_len : ∀ (x : P) (m : Nat), x.dat m = true → x.toD.shown.length ≤ x.sz
  | .non, m, _ => by show (Str.ofString "None").length ≤ 4; decide
  | .bl b, m, _ => by
    show (if b = true then Str.ofString "True" else Str.ofString "False").length ≤ 5
    cases b <;> decide
  | .int i, m, _ => by
    show (PyData.int i).shown.length ≤ _
    rw [PyData.shown.eq_3]
    exact Nat.le_refl _
  | .str x, m, h => by
    have h : (x.all fun c => decide (c < 128)) = true := h
    show (PyData.str (strOf x)).shown.length ≤ 10 * x.length + 2
    rw [PyData.shown.eq_4]
    have := StrLaws.reprText_len (strOf x) fun c hc => by
      have hc : c ∈ x := by simpa [strOf] using hc
      have := of_decide_eq_true (List.all_eq_true.mp h c hc)
      exact Nat.lt_of_lt_of_le this (by decide)
    have e : (strOf x).length = x.length := by simp [strOf, Str.length]
    rw [e] at this
    exact this
  | .lst xs, 0, h => by cases h
  | .lst xs, m + 1, h => by
    show (PyData.list (toDL xs)).shown.length ≤ szL xs + 4
    rw [PyData.shown.eq_5]
    have := listText_le (PyData.shownAll (toDL xs))
    have := shownL_len xs m h
    omega
  | .tup xs, 0, h => by cases h
  | .tup xs, m + 1, h => by
    show (PyData.tuple (toDL xs)).shown.length ≤ szL xs + 4
    rw [PyData.shown.eq_6]
    have := tupleText_le (PyData.shownAll (toDL xs))
    have := shownL_len xs m h
    omega
  | .dct _ _, m, h => by cases h
  | .obj _ _ _, m, h => by cases h
  | .ty _, m, h => by cases h
  | .glo _, m, h => by cases h
  | .raw _, m, h => by cases h
  | .rwp _ _, m, h => by cases h
  | .scr _, m, h => by cases h
theorem shownL_len : ∀ (xs : List P) (m : Nat), datL xs m = true → ((PyData.shownAll (toDL xs)).map fun t => t.length + 2).sum ≤ szL xs
  | [], m, _ => by
    show ((PyData.shownAll []).map fun t => t.length + 2).sum ≤ 0
    rw [PyData.shownAll.eq_1]
    exact Nat.le_refl _
  | x :: xs, m, h => by
    have h : (x.dat m && datL xs m) = true := h
    rw [Bool.and_eq_true] at h
    have h1 := shown_len x m h.1
    have h2 := shownL_len xs m h.2
    show ((PyData.shownAll (x.toD :: toDL xs)).map fun t => t.length + 2).sum ≤ x.sz + 2 + szL xs
    rw [PyData.shownAll.eq_2, List.map_cons, List.sum_cons]
    omega
end
theorem reprP_len {x : P} (h : x.dat 60 = true) : (reprP x).length ≤ x.sz := by
  have := shown_len x 60 h
  have e : (reprP x).length = x.toD.shown.length := by
    unfold reprP
    rw [Array.length_toList]
    rfl
  rw [e]
  exact this
theorem szL_map {A : Type} {f : A → P} {c : Nat} : ∀ {l : List A}, (∀ x ∈ l, (f x).sz ≤ c) → szL (l.map f) ≤ l.length * (c + 2)
  | [], _ => Nat.zero_le _
  | a :: l, h => by
    have h1 := h a List.mem_cons_self
    have h2 := szL_map (f := f) (l := l) fun x hx => h x (List.mem_cons_of_mem _ hx)
    show (f a).sz + 2 + szL (l.map f) ≤ _
    rw [List.length_cons, Nat.add_mul]
    omega
theorem showL_map {A : Type} {f : A → P} : ∀ {l : List A}, (∀ x ∈ l, (f x).toD.showable = true) → PyData.showableAll (toDL (l.map f)) = true
  | [], _ => by
    show PyData.showableAll [] = true
    rw [PyData.showableAll.eq_1]
  | a :: l, h => by
    show PyData.showableAll ((f a).toD :: toDL (l.map f)) = true
    rw [PyData.showableAll.eq_2, h a List.mem_cons_self, showL_map fun x hx => h x (List.mem_cons_of_mem _ hx)]
    rfl
theorem op_reprL {xs : List P} (h : (P.lst xs).dat 60 = true) (h2 : (P.lst xs).toD.showable = true) (h3 : (P.lst xs).sz ≤ 100000) : pRepr [.lst xs] = some (.str (reprP (.lst xs))) := by
  unfold pRepr
  dsimp only
  rw [h, h2]
  have := reprP_len h
  rw [if_pos (by rw [decide_eq_true (Nat.le_trans this h3)]; rfl)]
def Sm (s : Str) : Prop := ∀ c ∈ s.cps.toList, c < 128
theorem Sm.app {s t : Str} (h : Sm s) (h' : Sm t) : Sm (s ++ t) := fun c hc => by
  have e : (s ++ t).cps = s.cps ++ t.cps := rfl
  rw [e, Array.toList_append, List.mem_append] at hc
  exact hc.elim (h c) (h' c)
theorem Sm.join {s : Str} (h : Sm s) : ∀ {ts : List Str}, (∀ t ∈ ts, Sm t) → Sm (s.join ts)
  | [], _ => by
    rw [Str.join.eq_1]
    intro c hc
    cases hc
  | [t], h' => by
    rw [Str.join.eq_2]
    exact h' t List.mem_cons_self
  | t :: u :: r, h' => by
    rw [Str.join.eq_3 _ _ _ (by simp)]
    exact ((h' t List.mem_cons_self).app h).app (Sm.join h fun x hx => h' x (List.mem_cons_of_mem _ hx))
theorem reprC_small : ∀ c, c < 128 → ((Builtin.Str.reprChar 39 c).all fun d => decide (d < 128)) = true ∧ ((Builtin.Str.reprChar 34 c).all fun d => decide (d < 128)) = true := by
  decide +kernel
theorem quote_cases (x : Str) : reprQuote x = 39 ∨ reprQuote x = 34 := by
  unfold reprQuote
  split <;> simp
theorem foldC_small {q : Nat} (hq : q = 39 ∨ q = 34) : ∀ (l : List Nat) (acc : Array Nat), (∀ c ∈ l, c < 128) → (∀ c ∈ acc.toList, c < 128) → ∀ c ∈ (l.foldl (fun out c => out ++ (Builtin.Str.reprChar q c).toArray) acc).toList, c < 128
  | [], acc, _, h => h
  | a :: l, acc, hl, h => by
    refine foldC_small hq l _ (fun c hc => hl c (List.mem_cons_of_mem _ hc)) fun c hc => ?_
    rw [Array.toList_append, List.mem_append] at hc
    rcases hc with hc | hc
    · exact h c hc
    · have ha := reprC_small a (hl a List.mem_cons_self)
      rcases hq with rfl | rfl
      · exact of_decide_eq_true (List.all_eq_true.mp ha.1 c (by simpa using hc))
      · exact of_decide_eq_true (List.all_eq_true.mp ha.2 c (by simpa using hc))
theorem reprText_small {x : Str} (h : Sm x) : Sm (reprText x) := by
  have hq := quote_cases x
  have hq2 : reprQuote x < 128 := by rcases hq with e | e <;> rw [e] <;> decide
  intro c hc
  unfold reprText at hc
  simp only [Array.toList_push, List.mem_append, List.mem_singleton] at hc
  rcases hc with hc | hc
  · rw [← Array.foldl_toList] at hc
    refine foldC_small hq x.cps.toList #[reprQuote x] h (fun c hc => ?_) c hc
    have : c = reprQuote x := by simpa using hc
    rw [this]; exact hq2
  · rw [hc]; exact hq2
theorem sm_of {t : String} (h : ((Str.ofString t).cps.toList.all fun d => decide (d < 128)) = true) : Sm (Str.ofString t) := fun c hc => of_decide_eq_true (List.all_eq_true.mp h c hc)
mutual
def P.noInt : P → Bool
  | .int _ => false
  | .lst xs => noIntL xs
  | .tup xs => noIntL xs
  | _ => true
def noIntL : List P → Bool
  | [] => true
  | x :: xs => x.noInt && noIntL xs
end
mutual
theorem shown_small : ∀ (x : P) (m : Nat), x.dat m = true → x.noInt = true → Sm x.toD.shown
  | .non, m, _, _ => sm_of (by decide)
  | .bl b, m, _, _ => by
    show Sm (if b = true then Str.ofString "True" else Str.ofString "False")
    cases b
    · exact sm_of (by decide)
    · exact sm_of (by decide)
  | .int i, m, _, h => by cases h
  | .str x, m, h, _ => by
    have h : (x.all fun c => decide (c < 128)) = true := h
    show Sm (PyData.str (strOf x)).shown
    rw [PyData.shown.eq_4]
    refine reprText_small fun c hc => ?_
    have hc : c ∈ x := by simpa [strOf] using hc
    exact of_decide_eq_true (List.all_eq_true.mp h c hc)
  | .lst xs, 0, h, _ => by cases h
  | .lst xs, m + 1, h, n => by
    show Sm (PyData.list (toDL xs)).shown
    rw [PyData.shown.eq_5, listText_eq_join]
    exact ((sm_of (by decide)).app (Sm.join (sm_of (by decide)) (shownL_small xs m h n))).app (sm_of (by decide))
  | .tup xs, 0, h, _ => by cases h
  | .tup xs, m + 1, h, n => by
    show Sm (PyData.tuple (toDL xs)).shown
    rw [PyData.shown.eq_6]
    unfold tupleText
    refine ((sm_of (by decide)).app (Sm.join (sm_of (by decide)) (shownL_small xs m h n))).app ?_
    split
    · exact sm_of (by decide)
    · exact sm_of (by decide)
  | .dct _ _, m, h, _ => by cases h
  | .obj _ _ _, m, h, _ => by cases h
  | .ty _, m, h, _ => by cases h
  | .glo _, m, h, _ => by cases h
  | .raw _, m, h, _ => by cases h
  | .rwp _ _, m, h, _ => by cases h
  | .scr _, m, h, _ => by cases h
theorem shownL_small : ∀ (xs : List P) (m : Nat), datL xs m = true → noIntL xs = true → ∀ t ∈ PyData.shownAll (toDL xs), Sm t
  | [], m, _, _ => by
    show ∀ t ∈ PyData.shownAll [], Sm t
    rw [PyData.shownAll.eq_1]
    intro t ht
    cases ht
  | x :: xs, m, h, n => by
    have h : (x.dat m && datL xs m) = true := h
    have n : (x.noInt && noIntL xs) = true := n
    rw [Bool.and_eq_true] at h n
    show ∀ t ∈ PyData.shownAll (x.toD :: toDL xs), Sm t
    rw [PyData.shownAll.eq_2]
    intro t ht
    rcases List.mem_cons.mp ht with rfl | ht
    · exact shown_small x m h.1 n.1
    · exact shownL_small xs m h.2 n.2 t ht
end
theorem reprP_asc {x : P} (h : x.dat 60 = true) (n : x.noInt = true) : asc (reprP x) = true := by
  unfold asc
  rw [List.all_eq_true]
  intro c hc
  exact decide_eq_true (shown_small x 60 h n c hc)
theorem noInt_map {A : Type} {f : A → P} : ∀ {l : List A}, (∀ x ∈ l, (f x).noInt = true) → noIntL (l.map f) = true
  | [], _ => rfl
  | a :: l, h => by
    show ((f a).noInt && noIntL (l.map f)) = true
    rw [h a List.mem_cons_self, noInt_map fun x hx => h x (List.mem_cons_of_mem _ hx)]
    rfl
end Mir

namespace Mir
open PySem L2
end Mir

namespace Mir
open PySem L2
section
variable {ρ ρ1 ρ2 : En} {S S1 S2 S3 S4 : Sto} {a b o i v : ME} {m r : MA} {t : MT} {s : MS} {x y z : P} {d e : Vl} {ds es : List Vl} {xs ys : List P}
theorem app_p {k : Nat} (h : S[k]? = some (.lst xs)) (hl : xs.length < 100000) : fApp (.c k) [.p z] S = .ok (.p .non) (S.set k (.lst (xs ++ [z]))) := by
  unfold fApp
  dsimp only
  rw [h]
  dsimp only
  rw [frz_p, bind_ok]
  rw [h]
  dsimp only
  rw [if_pos hl]
theorem wh_end {n : Nat} (h : t ρ S = .ok false S1) : whGo t s (n + 1) ρ S = .ok (.nx ρ) S1 := by
  unfold whGo
  rw [h, go_ok]
theorem wh_step {n : Nat} (h : t ρ S = .ok true S1) (hs : s ρ S1 = .ok (.nx ρ1) S2) : whGo t s (n + 1) ρ S = whGo t s n ρ1 S2 := by
  conv => lhs; unfold whGo
  rw [h, go_ok]
  dsimp only
  rw [hs]
end
end Mir

namespace Mir
open PySem L2
section
variable {ρ : En} {S S1 S2 S3 : Sto} {a b : ME} {m : MA} {d e v : Vl} {ds : List Vl} {c : PySem.Str} {g : MF} {y : List Nat} {q : Bool}
end
end Mir

namespace Pl
open Mir
abbrev Row := Nat × List Nat
def deedS : List Nat := [99, 105, 110]
inductive Tr
  | leaf (s : Nat)
  | un (s : Nat) (t : Tr)
  | bin (s : Nat) (t u : Tr)
namespace Tr
def ok (ls : List Nat) : Tr → Prop
  | leaf s => s ∈ ls ∨ s = 48 ∨ s = 49
  | un s t => s ∈ deedS ∧ t.ok ls
  | bin s t u => (s = 38 ∨ s = 124) ∧ t.ok ls ∧ u.ok ls
def dep : Tr → Nat
  | leaf _ => 0
  | un _ t => t.dep + 1
  | bin _ t u => max t.dep u.dep + 1
def Den (L : List Row) : Nat → Tr → Prop
  | r, leaf s => L[r]? = some (s, [])
  | r, un s t => ∃ a, L[r]? = some (s, [a]) ∧ a < r ∧ Den L a t
  | r, bin s t u => ∃ a b, L[r]? = some (s, [a, b]) ∧ a < r ∧ b < r ∧ Den L a t ∧ Den L b u
end Tr
theorem pre_at {L M : List Row} {i : Nat} {r : Row} (h : L <+: M) (hi : L[i]? = some r) : M[i]? = some r := by
  obtain ⟨N, rfl⟩ := h
  rw [List.getElem?_append_left (List.getElem?_eq_some_iff.mp hi).1]
  exact hi
theorem Tr.Den.mono {L M : List Row} (h : L <+: M) : ∀ {t : Tr} {r : Nat}, Tr.Den L r t → Tr.Den M r t
  | .leaf s, r, d => pre_at h d
  | .un s t, r, d => by
    obtain ⟨a, h1, h2, h3⟩ := d
    exact ⟨a, pre_at h h1, h2, Tr.Den.mono h h3⟩
  | .bin s t u, r, d => by
    obtain ⟨a, b, h1, h2, h3, h4, h5⟩ := d
    exact ⟨a, b, pre_at h h1, h2, h3, Tr.Den.mono h h4, Tr.Den.mono h h5⟩
theorem Tr.Den.lt {L : List Row} : ∀ {t : Tr} {r : Nat}, Tr.Den L r t → r < L.length
  | .leaf s, r, d => (List.getElem?_eq_some_iff.mp d).1
  | .un s t, r, d => by obtain ⟨a, h1, _⟩ := d; exact (List.getElem?_eq_some_iff.mp h1).1
  | .bin s t u, r, d => by obtain ⟨a, b, h1, _⟩ := d; exact (List.getElem?_eq_some_iff.mp h1).1
def steps : Tr → Nat
  | .leaf _ => 1
  | .un _ t => steps t + 2
  | .bin _ t u => steps t + steps u + 3
end Pl

namespace Mir
open PySem L2 PySem.W PyProof.Rows
theorem toDL_map : ∀ xs : List (List Nat), toDL (xs.map P.str) = xs.map fun x => PyData.str (strOf x)
  | [] => rfl
  | x :: xs => by
    show PyData.str (strOf x) :: toDL (xs.map P.str) = _
    rw [toDL_map xs]
    rfl
theorem dataLt_strs : ∀ xs ys : List (List Nat), rowLt (xs.map fun x => PyData.str (strOf x)) (ys.map fun x => PyData.str (strOf x)) = decide (xs < ys)
  | [], [] => by
    have e : rowLt [] [] = false := lex_irrefl _
    simp [e]
  | [], y :: ys => by
    have e : rowLt [] (PyData.str (strOf y) :: ys.map fun x => PyData.str (strOf x)) = true := by
      unfold rowLt
      rw [toks_all_cons]
      simp only [keyToksAll]
      rw [lex_diff (O := itemOrd) (by simp)]
      rfl
    simpa using e
  | x :: xs, [] => by
    have e : rowLt (PyData.str (strOf x) :: xs.map fun x => PyData.str (strOf x)) [] = false := by
      unfold rowLt
      rw [toks_all_cons]
      simp only [keyToksAll]
      rw [lex_diff (O := itemOrd) (by simp)]
      rfl
    simpa using e
  | x :: xs, y :: ys => by
    have e : rowLt (PyData.str (strOf x) :: xs.map fun x => PyData.str (strOf x)) (PyData.str (strOf y) :: ys.map fun x => PyData.str (strOf x)) = if x = y then rowLt (xs.map fun x => PyData.str (strOf x)) (ys.map fun x => PyData.str (strOf x)) else decide (x < y) := by
      unfold rowLt
      rw [dataLt_cons (by simp [alike]), dataLt_str]
      have : (PyData.eqv (.str (strOf x)) (.str (strOf y)) = true) = (x = y) := by
        simp only [PyData.eqv, beq_iff_eq]
        exact propext ⟨strOf_inj, fun h => by rw [h]⟩
      simp only [this, strOf_cps]
    show rowLt (PyData.str (strOf x) :: xs.map fun x => PyData.str (strOf x)) (PyData.str (strOf y) :: ys.map fun x => PyData.str (strOf x)) = _
    rw [e]
    by_cases h : x = y
    · rw [if_pos h, dataLt_strs xs ys]
      simp [h, List.cons_lt_cons_iff]
    · rw [if_neg h]
      simp [h, List.cons_lt_cons_iff]
theorem leD_txts (a b : List (List Nat)) : leD (.tup (a.map P.str)) (.tup (b.map P.str)) = decide (a ≤ b) := by
  show (!dataLt (.tuple (toDL (b.map P.str))) (.tuple (toDL (a.map P.str)))) = _
  rw [dataLt_tuple, toDL_map, toDL_map]
  show (!rowLt _ _) = _
  rw [dataLt_strs]
  by_cases h : b < a
  · have h' : ¬ a ≤ b := fun r => List.not_lt.mpr r h
    simp [h, h']
  · have h' : a ≤ b := List.not_lt.mp h
    simp [h, h']
def leR (a b : List (List Nat)) : Bool := decide (a ≤ b)
theorem leR_trans (a b c : List (List Nat)) (h : leR a b = true) (h' : leR b c = true) : leR a c = true := decide_eq_true (List.le_trans (of_decide_eq_true h) (of_decide_eq_true h'))
theorem leR_total (a b : List (List Nat)) : (leR a b || leR b a) = true := by
  rcases List.le_total a b with h | h
  · rw [show leR a b = true from decide_eq_true h]; rfl
  · rw [show leR b a = true from decide_eq_true h, Bool.or_true]
theorem sortR_eq {A : Type} (f : A → List (List Nat)) (ls : List A) : (ls.map fun l => P.tup ((f l).map P.str)).mergeSort leD = ((ls.map f).mergeSort leR).map fun t => P.tup (t.map P.str) := by
  have := PySem.W.sort_maps (r := leR) (s := leD) (l := ls.map f) (fun t : List (List Nat) => P.tup (t.map P.str)) fun a _ b _ => (leD_txts a b).symm
  rw [this, List.map_map]
  rfl
theorem sortR_perm {l l' : List (List (List Nat))} (p : l.Perm l') : l.mergeSort leR = l'.mergeSort leR := by
  refine List.Perm.eq_of_pairwise (le := fun a b => a ≤ b) (fun a b _ _ h1 h2 => List.le_antisymm h1 h2) ?_ ?_ (((List.mergeSort_perm l leR).trans p).trans (List.mergeSort_perm l' leR).symm)
  · exact (List.pairwise_mergeSort leR_trans leR_total l).imp fun h => of_decide_eq_true h
  · exact (List.pairwise_mergeSort leR_trans leR_total l').imp fun h => of_decide_eq_true h
end Mir

namespace Mir
open PySem L2
section
variable {ρ ρ1 ρ2 : En} {S S1 S2 S3 : Sto} {a b c e m : ME} {t u : MT} {s s' : MS} {Q : Fl → Sto → Prop}
end
end Mir

namespace Mir
open PySem L2
section
variable {ρ ρ1 : En} {S S1 S2 S3 : Sto} {a b cx : ME} {m r : MA} {s s' : MS} {d e v : Vl} {ds zs as : List Vl} {y : P} {c f : PySem.Str} {x : XD}



end
end Mir

namespace Mir
open PySem L2
section
variable {ρ : En} {S S1 S2 S3 : Sto} {a b : ME} {c c2 : Str} {g g2 : MF} {d e : Vl} {q : Bool}
end
end Mir

namespace Law
open PySem L2 Mir
def Urn (S : Sto) (k : Nat) : Prop := ∃ a b c : Int, S[k]? = some (.lst [.int a, .int b, .int c]) ∧ 0 ≤ a ∧ 0 ≤ b ∧ b < 2147483323 ∧ 0 ≤ c
structure Ux (k : Nat) (S S' : Sto) : Prop where
  len : S'.length = S.length
  urn : Urn S' k
  oth : ∀ j, j ≠ k → S'[j]? = S[j]?
theorem Ux.trans {k : Nat} {S S1 S2 : Sto} (h : Ux k S S1) (h' : Ux k S1 S2) : Ux k S S2 := ⟨h'.len.trans h.len, h'.urn, fun j hj => (h'.oth j hj).trans (h.oth j hj)⟩
theorem Ux.of_set {k : Nat} {S : Sto} {c : Cell} {a b e : Int} (hk : S[k]? = some c) (ha : 0 ≤ a) (hb : 0 ≤ b) (hb2 : b < 2147483323) (hc : 0 ≤ e) : Ux k S (S.set k (.lst [.int a, .int b, .int e])) :=
  ⟨List.length_set, ⟨a, b, e, get_set_self hk, ha, hb, hb2, hc⟩, fun j hj => get_set_ne (Ne.symm hj)⟩
theorem ladle_ok {S : Sto} {k : Nat} {n : Int} (hu : Urn S k) (hn : 0 < n) (hn2 : n < 1000000) : ∃ r S', m__law_ladle [.c k, .p (.int n)] S = .ok (.p (.int r)) S' ∧ 0 ≤ r ∧ r < n ∧ Ux k S S' := by
  obtain ⟨a, b, c, hk, ha, hb, hb2, hc⟩ := hu
  unfold m__law_ladle mkF b__law_ladle
  by_cases h0 : 0 < a
  · simp [nv_lst hk, ixV_lst hk, h0, bDiv_of hn (show n < 1073741824 by omega)]
    rw [setV_lst hk rfl]
    simp
    refine ⟨a % n, _, ⟨rfl, rfl⟩, Int.emod_nonneg _ (by omega), Int.emod_lt_of_pos _ hn, ?_⟩
    rw [take_len (List.length_set)]
    exact Ux.of_set hk (Int.ediv_nonneg ha (by omega)) hb hb2 hc
  · simp [nv_lst hk, ixV_lst hk, h0]
    rw [setV_lst hk rfl]
    simp
    have h1 := Ux.of_set (e := c + 1) hk ha hb hb2 (by omega)
    have hk1 : (S.set k (.lst [.int a, .int b, .int (c + 1)]))[k]? = _ := get_set_self hk
    generalize hS1 : S.set k (.lst [.int a, .int b, .int (c + 1)]) = S1 at *
    have e1 : ∀ x, bMul 54001 x = true := fun x => bMul_l (by decide) (by decide)
    have e2 : ∀ x, bMul 41 x = true := fun x => bMul_l (by decide) (by decide)
    have e3 : ∀ x : Int, bMod x 2147483323 = true := fun x => bMod_of (by decide)
    have e4 : ∀ x : Int, bMod x 25013 = true := fun x => bMod_of (by decide)
    simp [nv_lst hk1, ixV_lst hk1, e1, e2, e3, e4]
    generalize hB : (b + 54001 * (c + 1)) % 2147483323 = B
    have hB0 : 0 ≤ B := by rw [← hB]; exact Int.emod_nonneg _ (by decide)
    have hB1 : B < 2147483323 := by rw [← hB]; exact Int.emod_lt_of_pos _ (by decide)
    have e5 : ∀ x, bMul B x = true := fun x => bMul_l (by omega) (by omega)
    simp [e5, e2, e3, e4, nv_lst hk1, ixV_lst hk1]
    rw [setV_lst hk1 rfl]
    simp
    generalize hC : (B * (B % 25013 + 57037) + 41 * (c + 1) + 7) % 2147483323 = C
    have hC0 : 0 ≤ C := by rw [← hC]; exact Int.emod_nonneg _ (by decide)
    have hC1 : C < 2147483323 := by rw [← hC]; exact Int.emod_lt_of_pos _ (by decide)
    have h2 := Ux.of_set (a := a) (b := C) (e := c + 1) hk1 ha hC0 hC1 (by omega)
    have hk2 : (S1.set k (.lst [.int a, .int C, .int (c + 1)]))[k]? = _ := get_set_self hk1
    generalize hS2 : S1.set k (.lst [.int a, .int C, .int (c + 1)]) = S2 at *
    have e6 : ∀ x, bDiv x 193 = true := fun x => bDiv_of (by decide) (by decide)
    have e7 : ∀ x, bMod x n = true := fun x => bMod_of hn
    simp [nv_lst hk2, ixV_lst hk2, e6, e7]
    refine ⟨_, _, ⟨rfl, rfl⟩, Int.emod_nonneg _ (by omega), Int.emod_lt_of_pos _ hn, ?_⟩
    rw [take_len (h2.len.trans h1.len)]
    exact h1.trans h2
theorem pick_ok {S : Sto} {k : Nat} {xs : List P} (hu : Urn S k) (h0 : xs ≠ []) (hl : xs.length < 1000000) : ∃ x S', m__law_pick [.c k, .p (.lst xs)] S = .ok (.p x) S' ∧ x ∈ xs ∧ Ux k S S' := by
  have hp : 0 < xs.length := List.length_pos_iff.mpr h0
  obtain ⟨r, S', e, r0, r1, ux⟩ := ladle_ok (n := xs.length) hu (by omega) (by omega)
  have hr : r.toNat < xs.length := by omega
  refine ⟨xs[r.toNat], S', ?_, List.getElem_mem _, ux⟩
  unfold m__law_pick mkF b__law_pick
  simp [e]
  have e2 : atI xs r = some xs[r.toNat] := by
    have := atN (xs := xs) (i := r.toNat) (x := xs[r.toNat]) (by simp [hr])
    rwa [Int.toNat_of_nonneg r0] at this
  rw [e2]
  simp
  exact take_len ux.len
end Law

namespace Law
open PySem L2 Mir Pl
theorem cells_new {ρ : En} (h2 : 2 < ρ.length) : ∀ (l : List Nat) (S : Sto), lcGoV (gNm 2) tsYes (eLstC (aCons (eVar 2) aNil)) ρ (nums l) S = .ok ((List.range l.length).map fun i => Vl.c (S.length + i)) (S ++ l.map fun (i : Nat) => Cell.lst [P.int (i : Int)])
  | [], S => by simp [lcGoV, nums]
  | i :: l, S => by
    have ih := cells_new h2 l (S ++ [Cell.lst [.int (i : Int)]])
    have e1 : eVar 2 (ρ.set 2 (some (.p (.int (i : Int))))) S = .ok (.p (.int (i : Int))) S := by
      unfold eVar
      rw [List.getElem?_set_self h2]
    show lcGoV _ _ _ ρ (P.int (i : Int) :: nums l) S = _
    unfold lcGoV
    simp only [gNm_eq, nox_ok, bind_ok, tsYes, eLstC_eq, aCons_eq, aNil_eq, e1, frzs_cons, frzs_nil, frz_p]
    rw [if_pos (by simp), nox_ok, bind_ok, ih, bind_ok]
    rw [List.length_cons, List.range_succ_eq_map, List.map_cons, List.map_map]
    congr 1
    · rw [List.length_append]
      congr 1
      apply List.map_congr_left
      intro a _
      show Vl.c (S.length + 1 + a) = Vl.c (S.length + (a + 1))
      congr 1
      omega
    · rw [List.append_assoc]
      rfl
structure N1 (s n : Nat) (rows : List (List Nat)) (S : Sto) : Prop where
  len : S.length = s + n + 1
  cel : ∀ i, i < n → S[s + i]? = some (.lst (nums (row rows i)))
  out : S[s + n]? = some (.lsv ((List.range n).map fun i => Vl.c (s + i)))
theorem N1.ux {s n k : Nat} {rows : List (List Nat)} {S S' : Sto} (h : N1 s n rows S) (hk : k < s) (u : Ux k S S') : N1 s n rows S' :=
  ⟨u.len.trans h.len, fun i hi => by rw [u.oth _ (by omega)]; exact h.cel i hi, by rw [u.oth _ (by omega)]; exact h.out⟩
theorem N1.app {s n k : Nat} {rows : List (List Nat)} {S : Sto} (h : N1 s n rows S) (hk : k < n) (hr : rows.length = n) (l : List Nat) : N1 s n (rows.set k l) (S.set (s + k) (.lst (nums l))) := by
  refine ⟨by rw [List.length_set]; exact h.len, fun i hi => ?_, ?_⟩
  · by_cases q : i = k
    · subst q
      rw [get_set_self (h.cel i hi), row_set_self (by omega)]
    · rw [get_set_ne (by omega), row_set_ne (Ne.symm q)]
      exact h.cel i hi
  · rw [get_set_ne (by omega)]
    exact h.out
theorem at_handles {s n k : Nat} (hk : k < n) : atI ((List.range n).map fun i => Vl.c (s + i)) (k : Int) = some (.c (s + k)) := by
  refine atN ?_
  rw [List.getElem?_map, List.getElem?_range hk]
  rfl
structure Low (ku s : Nat) (S0 S : Sto) : Prop where
  urn : Urn S ku
  oth : ∀ j, j < s → j ≠ ku → S[j]? = S0[j]?
theorem Low.ux {ku s : Nat} {S0 S S' : Sto} (h : Low ku s S0 S) (u : Ux ku S S') : Low ku s S0 S' := ⟨u.urn, fun j hj hn => (u.oth j hn).trans (h.oth j hj hn)⟩
theorem Low.set {ku s k : Nat} {S0 S : Sto} {c : Cell} (h : Low ku s S0 S) (hk : s ≤ k) (hu : ku < s) : Low ku s S0 (S.set k c) := by
  refine ⟨?_, fun j hj hn => by rw [get_set_ne (by omega)]; exact h.oth j hj hn⟩
  obtain ⟨a, b, e, h1, h2⟩ := h.urn
  exact ⟨a, b, e, by rw [get_set_ne (by omega)]; exact h1, h2⟩
abbrev e1 (ku n o : Nat) (sh : Int) (kv jv : Option Vl) : En := [some (.c ku), some (.p (.int (n : Int))), kv, none, some (.c o), some (.p (.int sh)), jv, none, none]
theorem draw_turn {ku s n k j : Nat} {sh : Int} {rows : List (List Nat)} {S0 S : Sto} (hu : ku < s) (hsh : 0 < sh) (hsh2 : sh < 1000) (hn : n < 1000) (hk : k < n) (hr : rows.length = n) (hlen : (row rows k).length ≤ n) (h : N1 s n rows S) (low : Low ku s S0 S) :
    ∃ rows' S', (sIf (tAndM (tVal (eBin pNe (eVar 6) (eVar 2))) (tVal (eBin pEq (eFn m__law_ladle (aCons (eVar 0) (aCons (eVar 5) aNil))) (eC (.int 0))))) (sExpr (eMut isL fApp (eItem (eVar 4) (eVar 2)) (aCons (eVar 6) aNil))) sPass)
      (e1 ku n (s + n) sh (some (.p (.int (k : Int)))) (some (.p (.int (j : Int))))) S = .ok (.nx (e1 ku n (s + n) sh (some (.p (.int (k : Int)))) (some (.p (.int (j : Int)))))) S' ∧ N1 s n rows' S' ∧ Low ku s S0 S' ∧ (rows' = rows ∨ (j ≠ k ∧ rows' = rows.set k (row rows k ++ [j]))) := by
  by_cases q : j = k
  · subst q
    refine ⟨rows, S, ?_, h, low, .inl rfl⟩
    simp
  · obtain ⟨r, S1, er, r0, r1, ux⟩ := ladle_ok (n := sh) low.urn hsh (by omega)
    have h1 := h.ux hu ux
    have l1 := low.ux ux
    have q' : ((j : Int) == (k : Int)) = false := by simp; omega
    by_cases hz : r = 0
    · subst hz
      refine ⟨rows.set k (row rows k ++ [j]), S1.set (s + k) (.lst (nums (row rows k ++ [j]))), ?_, h1.app hk hr _, l1.set (by omega) hu, .inr ⟨q, rfl⟩⟩
      simp [q', er, nv_lsv h1.out, ixV_lsv h1.out (at_handles hk), isL_lst (h1.cel k hk)]
      rw [fApp_lst (h1.cel k hk) (by rw [ints_length]; omega)]
      simp [ints_append]
      skip
    · refine ⟨rows, S1, ?_, h1, l1, .inl rfl⟩
      have hz' : (r == 0) = false := by simp [hz]
      simp [q', er, hz']
theorem phase1 {ku s n : Nat} {sh : Int} {S0 S : Sto} {kv jv : Option Vl} (hu : ku < s) (hsh : 0 < sh) (hsh2 : sh < 1000) (hn : n < 1000) (h : N1 s n ((List.range n).map fun i => [i]) S) (low : Low ku s S0 S) :
    ∃ kv' jv' rows S', (sFor (itRange1 (eVar 1)) (gNm 2) (sFor (itRange1 (eVar 1)) (gNm 6) (sIf (tAndM (tVal (eBin pNe (eVar 6) (eVar 2))) (tVal (eBin pEq (eFn m__law_ladle (aCons (eVar 0) (aCons (eVar 5) aNil))) (eC (.int 0))))) (sExpr (eMut isL fApp (eItem (eVar 4) (eVar 2)) (aCons (eVar 6) aNil))) sPass)))
      (e1 ku n (s + n) sh kv jv) S = .ok (.nx (e1 ku n (s + n) sh kv' jv')) S' ∧ N1 s n rows S' ∧ Low ku s S0 S' ∧ Good n rows := by
  have rng : ∀ kv jv S, itRange1 (eVar 1) (e1 ku n (s + n) sh kv jv) S = .ok (rangeP 0 n) S := fun kv jv S => itRange1_nat rfl (by omega)
  have I0 := forGo_rng (g := gNm 2) (b := sFor (itRange1 (eVar 1)) (gNm 6) (sIf (tAndM (tVal (eBin pNe (eVar 6) (eVar 2))) (tVal (eBin pEq (eFn m__law_ladle (aCons (eVar 0) (aCons (eVar 5) aNil))) (eC (.int 0))))) (sExpr (eMut isL fApp (eItem (eVar 4) (eVar 2)) (aCons (eVar 6) aNil))) sPass))
    (fun i ρ S => ∃ kv jv rows, ρ = e1 ku n (s + n) sh kv jv ∧ N1 s n rows S ∧ Low ku s S0 S ∧ Good n rows ∧ ∀ k, i ≤ k → k < n → row rows k = [k]) n (e1 ku n (s + n) sh kv jv) S
    ⟨kv, jv, _, rfl, h, low, good0 n, fun k _ hk => row_range hk⟩ ?_
  · obtain ⟨ρ', S', e, kv', jv', rows, rfl, h1, l1, g1, _⟩ := I0
    refine ⟨kv', jv', rows, S', ?_, h1, l1, g1⟩
    rw [sFor_eq, rng, go_ok]
    exact e
  · rintro k ρ S hk ⟨kv, jv, rows, rfl, h1, l1, g1, hid⟩
    refine ⟨e1 ku n (s + n) sh (some (.p (.int (k : Int)))) jv, S, ?_⟩
    have J0 := forGo_rng (g := gNm 6) (b := sIf (tAndM (tVal (eBin pNe (eVar 6) (eVar 2))) (tVal (eBin pEq (eFn m__law_ladle (aCons (eVar 0) (aCons (eVar 5) aNil))) (eC (.int 0))))) (sExpr (eMut isL fApp (eItem (eVar 4) (eVar 2)) (aCons (eVar 6) aNil))) sPass)
      (fun j ρ S => ∃ jv rows, ρ = e1 ku n (s + n) sh (some (.p (.int (k : Int)))) jv ∧ N1 s n rows S ∧ Low ku s S0 S ∧ Good n rows ∧ (∀ k', k + 1 ≤ k' → k' < n → row rows k' = [k']) ∧ ∀ e ∈ row rows k, e = k ∨ e < j) n (e1 ku n (s + n) sh (some (.p (.int (k : Int)))) jv) S
      ⟨jv, rows, rfl, h1, l1, g1, fun k' hk' => hid k' (by omega), fun e he => by
        rw [hid k (Nat.le_refl _) hk] at he
        exact .inl (List.mem_singleton.mp he)⟩ ?_
    · obtain ⟨ρ', S', e, jv', rows', rfl, h2, l2, g2, hid2, _⟩ := J0
      refine ⟨_, S', rfl, .inl ?_, some (.p (.int (k : Int))), jv', rows', rfl, h2, l2, g2, hid2⟩
      rw [sFor_eq, rng, go_ok]
      exact e
    · rintro j ρ S hj ⟨jv, rows, rfl, h2, l2, g2, hid2, hb⟩
      obtain ⟨rows', S', e, h3, l3, hr⟩ := draw_turn (j := j) hu hsh hsh2 hn hk g2.len (g2.rlen hk) h2 l2
      refine ⟨e1 ku n (s + n) sh (some (.p (.int (k : Int)))) (some (.p (.int (j : Int)))), S, e1 ku n (s + n) sh (some (.p (.int (k : Int)))) (some (.p (.int (j : Int)))), S', rfl, .inl e, _, rows', rfl, h3, l3, ?_⟩
      rcases hr with rfl | ⟨hjk, rfl⟩
      · exact ⟨g2, hid2, fun e he => (hb e he).imp id fun z => by omega⟩
      · have hnot : j ∉ row rows k := fun z => by
          rcases hb j z with z | z
          · exact hjk z
          · omega
        have hl : k < rows.length := by rw [g2.len]; exact hk
        refine ⟨good_app g2 hk hj hnot, fun k' h1 h2 => ?_, fun e he => ?_⟩
        · rw [row_set_ne (by omega)]; exact hid2 k' h1 h2
        · rw [row_set_self hl] at he
          rcases List.mem_append.mp he with z | z
          · exact (hb e z).imp id fun z => by omega
          · rw [List.mem_singleton.mp z]; exact .inr (by omega)
end Law

namespace Law
open PySem L2 Mir Pl
def RdL (s n : Nat) (S : Sto) (d : Vl) (l : List Nat) : Prop := d = .p (.lst (nums l)) ∨ ∃ i, i < n ∧ d = .c (s + i) ∧ (S[s + i]? = some (.lst (nums l)) ∨ S[s + i]? = some (.fz (.lst (nums l))))
theorem RdL.rd {s n : Nat} {S : Sto} {d : Vl} {l : List Nat} (h : RdL s n S d l) : rd S d = some (.lst (nums l)) := by
  rcases h with rfl | ⟨i, _, rfl, h | h⟩
  · rfl
  · exact rd_lst h
  · exact rd_fz h
structure Fz (s n : Nat) (S S' : Sto) : Prop where
  len : S'.length = S.length
  oth : ∀ j, j < s ∨ s + n ≤ j → S'[j]? = S[j]?
  rdl : ∀ d l, RdL s n S d l → RdL s n S' d l
theorem Fz.refl {s n : Nat} {S : Sto} : Fz s n S S := ⟨rfl, fun _ _ => rfl, fun _ _ h => h⟩
theorem Fz.trans {s n : Nat} {S S1 S2 : Sto} (h : Fz s n S S1) (h' : Fz s n S1 S2) : Fz s n S S2 := ⟨h'.len.trans h.len, fun j hj => (h'.oth j hj).trans (h.oth j hj), fun d l q => h'.rdl d l (h.rdl d l q)⟩
theorem RdL.frz {s n : Nat} {S : Sto} {d : Vl} {l : List Nat} (h : RdL s n S d l) : ∃ S', frz d S = .ok (.lst (nums l)) S' ∧ Fz s n S S' := by
  rcases h with rfl | ⟨i, hi, rfl, h | h⟩
  · exact ⟨S, rfl, Fz.refl⟩
  · refine ⟨_, frz_lst h, by rw [List.length_set], fun j hj => get_set_ne (by omega), fun d' l' q => ?_⟩
    rcases q with q | ⟨i', hi', rfl, q⟩
    · exact .inl q
    · refine .inr ⟨i', hi', rfl, ?_⟩
      by_cases e : i' = i
      · subst e
        rw [get_set_self h]
        rw [h] at q
        rcases q with q | q
        · rw [← Cell.lst.inj (Option.some.inj q)]; exact .inr rfl
        · cases q
      · rw [get_set_ne (by omega)]
        exact q
  · exact ⟨S, frz_fz h, Fz.refl⟩
structure N2 (s n : Nat) (rows : List (List Nat)) (S : Sto) : Prop where
  len : S.length = s + n + 1
  ex : ∃ ds, S[s + n]? = some (.lsv ds) ∧ ds.length = n ∧ ∀ i, i < n → ∃ d, ds[i]? = some d ∧ RdL s n S d (row rows i)
theorem N1.n2 {s n : Nat} {rows : List (List Nat)} {S : Sto} (h : N1 s n rows S) : N2 s n rows S :=
  ⟨h.len, _, h.out, by rw [List.length_map, List.length_range], fun i hi => ⟨.c (s + i), by rw [List.getElem?_map, List.getElem?_range hi]; rfl, .inr ⟨i, hi, rfl, .inl (h.cel i hi)⟩⟩⟩
theorem N2.fz {s n : Nat} {rows : List (List Nat)} {S S' : Sto} (h : N2 s n rows S) (f : Fz s n S S') : N2 s n rows S' := by
  obtain ⟨ds, h1, h2, h3⟩ := h.ex
  refine ⟨f.len.trans h.len, ds, by rw [f.oth _ (by omega)]; exact h1, h2, fun i hi => ?_⟩
  obtain ⟨d, e, r⟩ := h3 i hi
  exact ⟨d, e, f.rdl _ _ r⟩
theorem N2.item {s n : Nat} {rows : List (List Nat)} {S : Sto} (h : N2 s n rows S) {i : Nat} (hi : i < n) : ∃ d, ixV (nv S (.c (s + n))) (.p (.int (i : Int))) S = .ok d S ∧ RdL s n S d (row rows i) ∧ ∃ ds, S[s + n]? = some (.lsv ds) ∧ ds.length = n ∧ ds[i]? = some d := by
  obtain ⟨ds, h1, h2, h3⟩ := h.ex
  obtain ⟨d, e, r⟩ := h3 i hi
  exact ⟨d, by rw [nv_lsv h1]; exact ixV_lsv h1 (atN e), r, ds, h1, h2, e⟩
theorem setV_lsvp {S : Sto} {k n : Nat} {xs : List Vl} {j : Int} {x : P} (h : S[k]? = some (.lsv xs)) (hj : ixN xs.length j = some n) : setV (.c k) (.p (.int j)) (.p x) S = .ok () (S.set k (.lsv (xs.set n (.p x)))) := by
  unfold setV
  dsimp only
  rw [h]
  dsimp only
  rw [hj]
theorem ixN_nat {n i : Nat} (h : i < n) : ixN n (i : Int) = some i := by
  unfold ixN
  rw [if_pos (by omega), if_pos (by omega)]
  simp
theorem N2.put {s n : Nat} {rows : List (List Nat)} {S : Sto} (h : N2 s n rows S) (hr : rows.length = n) {k : Nat} (hk : k < n) (l : List Nat) : ∃ S', setV (.c (s + n)) (.p (.int (k : Int))) (.p (.lst (nums l))) S = .ok () S' ∧ N2 s n (rows.set k l) S' ∧ ∀ j, j < s → S'[j]? = S[j]? := by
  obtain ⟨ds, h1, h2, h3⟩ := h.ex
  refine ⟨_, setV_lsvp h1 (by rw [h2]; exact ixN_nat hk), ⟨by rw [List.length_set]; exact h.len, _, get_set_self h1, by rw [List.length_set]; exact h2, fun i hi => ?_⟩, fun j hj => get_set_ne (by omega)⟩
  by_cases q : i = k
  · subst q
    exact ⟨_, List.getElem?_set_self (by omega), .inl (by rw [row_set_self (by omega)])⟩
  · obtain ⟨d, e, r⟩ := h3 i hi
    refine ⟨d, by rw [List.getElem?_set_ne (Ne.symm q)]; exact e, ?_⟩
    rw [row_set_ne (Ne.symm q)]
    rcases r with r | ⟨i', hi', rfl, r⟩
    · exact .inl r
    · exact .inr ⟨i', hi', rfl, by rw [get_set_ne (by omega)]; exact r⟩
abbrev e2 (ku n o : Nat) (sh : Int) (tv kv jv : Option Vl) : En := [some (.c ku), some (.p (.int (n : Int))), kv, tv, some (.c o), some (.p (.int sh)), jv, none, none]
def bIn : MS := sAsg (eBin pAdd (eItem (eVar 4) (eVar 2)) (eLc (itOf (eItem (eVar 4) (eVar 6))) [8] (gNm 8) (tVal (eBin pNotIn2 (eVar 8) (eItem (eVar 4) (eVar 2)))) (eVar 8))) (gSubM (eVar 4) (eVar 2))
theorem grow_turn {ku s n k j : Nat} {sh : Int} {tv : Option Vl} {rows : List (List Nat)} {S : Sto} (hn : n < 1000) (g : Good n rows) (hk : k < n) (hj : j < n) (h : N2 s n rows S) :
    ∃ S', bIn (e2 ku n (s + n) sh tv (some (.p (.int (k : Int)))) (some (.p (.int (j : Int))))) S = .ok (.nx (e2 ku n (s + n) sh tv (some (.p (.int (k : Int)))) (some (.p (.int (j : Int)))))) S' ∧ N2 s n (upd1 k rows j) S' ∧ ∀ i, i < s → S'[i]? = S[i]? := by
  obtain ⟨dk, ek, rk, _⟩ := h.item hk
  obtain ⟨dj, ej, rj, _⟩ := h.item hj
  obtain ⟨S1, ef, fz⟩ := rj.frz
  have h1 := h.fz fz
  obtain ⟨dk', ek', rk', _⟩ := h1.item hk
  have rk1 := fz.rdl _ _ rk
  have lc : eLc (itOf (eItem (eVar 4) (eVar 6))) [8] (gNm 8) (tVal (eBin pNotIn2 (eVar 8) (eItem (eVar 4) (eVar 2)))) (eVar 8) (e2 ku n (s + n) sh tv (some (.p (.int (k : Int)))) (some (.p (.int (j : Int))))) S = .ok (.p (.lst (nums ((row rows j).filter fun e => !(row rows k).contains e)))) S1 := by
    rw [eLc_pure (S1 := S1) (xs := nums (row rows j)) (fun x => match x with
        | .int e => !(row rows k).contains e.toNat
        | _ => false) id ?_ ?_ ?_]
    · rw [List.map_id, filter_ints fun e => !(row rows k).contains e]
      intro e
      simp
    · simp [ej, ef]
    · rw [ints_length]
      have := g.rlen hj
      omega
    · intro x hx
      obtain ⟨e, he, rfl⟩ := List.mem_map.mp hx
      refine ⟨[some (.c ku), some (.p (.int (n : Int))), some (.p (.int (k : Int))), tv, some (.c (s + n)), some (.p (.int sh)), some (.p (.int (j : Int))), none, some (.p (.int (e : Int)))], rfl, ?_, fun _ => rfl⟩
      simp [ek']
      rw [op2_rd (rd_p _ _) rk'.rd, pNotIn2_ints]
      simp
  obtain ⟨S2, es, h2, lo⟩ := h1.put g.len hk (row rows k ++ (row rows j).filter fun e => !(row rows k).contains e)
  refine ⟨S2, ?_, h2, fun i hi => (lo i hi).trans (fz.oth i (.inl hi))⟩
  unfold bIn
  rw [sAsg_eq, eBin_eq]
  have e0 : eItem (eVar 4) (eVar 2) (e2 ku n (s + n) sh tv (some (.p (.int (k : Int)))) (some (.p (.int (j : Int))))) S = .ok dk S := by simp [ek]
  rw [e0, bind_ok, lc, bind_ok, op2_rd rk1.rd (rd_p _ _), pAdd_lst]
  have hl : (nums (row rows k)).length + (nums ((row rows j).filter fun e => !(row rows k).contains e)).length ≤ 100000 := by
    rw [ints_length, ints_length]
    have a := g.rlen hk
    have b := g.rlen hj
    have c := List.length_filter_le (fun e => !(row rows k).contains e) (row rows j)
    omega
  rw [if_pos hl, ← ints_append, ofO_some, go_ok]
  have v4 : ∀ S, eVar 4 (e2 ku n (s + n) sh tv (some (.p (.int (k : Int)))) (some (.p (.int (j : Int))))) S = .ok (.c (s + n)) S := fun _ => rfl
  have v2 : ∀ S, eVar 2 (e2 ku n (s + n) sh tv (some (.p (.int (k : Int)))) (some (.p (.int (j : Int))))) S = .ok (.p (.int (k : Int))) S := fun _ => rfl
  rw [gSub_eq, v4, nox_ok, bind_ok, v2, nox_ok, bind_ok, es, bind_ok, nox_ok, go_ok]
theorem grow_k {ku s n k : Nat} {sh : Int} {tv jv : Option Vl} (hn : n < 1000) (hk : k < n) : ∀ (js : List Nat) (rows : List (List Nat)) (S : Sto) (jv : Option Vl), Good n rows → N2 s n rows S → (∀ j ∈ js, j < n) →
    ∃ jv' S', forGo (gNm 6) bIn (nums js) (e2 ku n (s + n) sh tv (some (.p (.int (k : Int)))) jv) S = .ok (.nx (e2 ku n (s + n) sh tv (some (.p (.int (k : Int)))) jv')) S' ∧ N2 s n (js.foldl (upd1 k) rows) S' ∧ Good n (js.foldl (upd1 k) rows) ∧ ∀ i, i < s → S'[i]? = S[i]?
  | [], rows, S, jv, g, h, _ => ⟨jv, S, rfl, h, g, fun _ _ => rfl⟩
  | j :: js, rows, S, jv, g, h, hj => by
    obtain ⟨S1, e, h1, lo⟩ := grow_turn (ku := ku) (sh := sh) (tv := tv) hn g hk (hj j List.mem_cons_self) h
    obtain ⟨g1, _, _⟩ := upd1_good g hk (hj j List.mem_cons_self)
    obtain ⟨jv', S2, e2', h2, g2, lo2⟩ := grow_k (jv := jv) hn hk js _ S1 (some (.p (.int (j : Int)))) g1 h1 fun i hi => hj i (List.mem_cons_of_mem _ hi)
    refine ⟨jv', S2, ?_, h2, g2, fun i hi => (lo2 i hi).trans (lo i hi)⟩
    show forGo (gNm 6) bIn (P.int (j : Int) :: nums js) _ S = _
    rw [forGo_cons]
    have ge : gNm 6 (.p (.int (j : Int))) (e2 ku n (s + n) sh tv (some (.p (.int (k : Int)))) jv) S = .ok (e2 ku n (s + n) sh tv (some (.p (.int (k : Int)))) (some (.p (.int (j : Int))))) S := rfl
    rw [ge, nox_ok, go_ok, e]
    exact e2'
def bK : MS := sFor (itOf (eCall pList (aCons (eItem (eVar 4) (eVar 2)) aNil))) (gNm 6) bIn
theorem grow_kk {ku s n k : Nat} {sh : Int} {tv jv : Option Vl} {rows : List (List Nat)} {S : Sto} (hn : n < 1000) (hk : k < n) (g : Good n rows) (h : N2 s n rows S) :
    ∃ jv' S', bK (e2 ku n (s + n) sh tv (some (.p (.int (k : Int)))) jv) S = .ok (.nx (e2 ku n (s + n) sh tv (some (.p (.int (k : Int)))) jv')) S' ∧ N2 s n (stepK rows k) S' ∧ Good n (stepK rows k) ∧ ∀ i, i < s → S'[i]? = S[i]? := by
  obtain ⟨dk, ek, rk, _⟩ := h.item hk
  obtain ⟨jv', S', e, h1, g1, lo⟩ := grow_k (ku := ku) (sh := sh) (tv := tv) (jv := jv) hn hk (row rows k) rows S jv g h (g.lt k hk)
  refine ⟨jv', S', ?_, h1, g1, lo⟩
  unfold bK
  rw [sFor_eq]
  have e0 : itOf (eCall pList (aCons (eItem (eVar 4) (eVar 2)) aNil)) (e2 ku n (s + n) sh tv (some (.p (.int (k : Int)))) jv) S = .ok (nums (row rows k)) S := by
    simp [ek, rds_rd rk.rd]
  rw [e0, go_ok]
  exact e
theorem grow_round {ku s n : Nat} {sh : Int} {tv : Option Vl} (hn : n < 1000) : ∀ (ks : List Nat) (rows : List (List Nat)) (S : Sto) (kv jv : Option Vl), Good n rows → N2 s n rows S → (∀ j ∈ ks, j < n) →
    ∃ kv' jv' S', forGo (gNm 2) bK (nums ks) (e2 ku n (s + n) sh tv kv jv) S = .ok (.nx (e2 ku n (s + n) sh tv kv' jv')) S' ∧ N2 s n (ks.foldl stepK rows) S' ∧ Good n (ks.foldl stepK rows) ∧ ∀ i, i < s → S'[i]? = S[i]?
  | [], rows, S, kv, jv, g, h, _ => ⟨kv, jv, S, rfl, h, g, fun _ _ => rfl⟩
  | k :: ks, rows, S, kv, jv, g, h, hj => by
    obtain ⟨jv1, S1, e, h1, g1, lo⟩ := grow_kk (ku := ku) (sh := sh) (tv := tv) (jv := jv) hn (hj k List.mem_cons_self) g h
    obtain ⟨kv', jv', S2, e2', h2, g2, lo2⟩ := grow_round (ku := ku) (sh := sh) (tv := tv) hn ks _ S1 (some (.p (.int (k : Int)))) jv1 g1 h1 fun i hi => hj i (List.mem_cons_of_mem _ hi)
    refine ⟨kv', jv', S2, ?_, h2, g2, fun i hi => (lo2 i hi).trans (lo i hi)⟩
    show forGo (gNm 2) bK (P.int (k : Int) :: nums ks) _ S = _
    rw [forGo_cons]
    have ge : gNm 2 (.p (.int (k : Int))) (e2 ku n (s + n) sh tv kv jv) S = .ok (e2 ku n (s + n) sh tv (some (.p (.int (k : Int)))) jv) S := rfl
    rw [ge, nox_ok, go_ok, e]
    exact e2'
theorem grow_all {ku s n : Nat} {sh : Int} (hn : n < 1000) : ∀ (ts : List Nat) (rows : List (List Nat)) (S : Sto) (tv kv jv : Option Vl), Good n rows → N2 s n rows S →
    ∃ tv' kv' jv' S', forGo (gNm 3) (sFor (itRange1 (eVar 1)) (gNm 2) bK) (nums ts) (e2 ku n (s + n) sh tv kv jv) S = .ok (.nx (e2 ku n (s + n) sh tv' kv' jv')) S' ∧ N2 s n (closeR n ts.length rows) S' ∧ ∀ i, i < s → S'[i]? = S[i]?
  | [], rows, S, tv, kv, jv, g, h => ⟨tv, kv, jv, S, rfl, h, fun _ _ => rfl⟩
  | t :: ts, rows, S, tv, kv, jv, g, h => by
    obtain ⟨kv1, jv1, S1, e, h1, g1, lo⟩ := grow_round (ku := ku) (sh := sh) (tv := some (.p (.int (t : Int)))) hn (List.range n) rows S kv jv g h fun i hi => List.mem_range.mp hi
    obtain ⟨tv', kv', jv', S2, e2', h2, lo2⟩ := grow_all (ku := ku) (sh := sh) hn ts _ S1 (some (.p (.int (t : Int)))) kv1 jv1 g1 h1
    refine ⟨tv', kv', jv', S2, ?_, h2, fun i hi => (lo2 i hi).trans (lo i hi)⟩
    show forGo (gNm 3) _ (P.int (t : Int) :: nums ts) _ S = _
    rw [forGo_cons]
    have ge : gNm 3 (.p (.int (t : Int))) (e2 ku n (s + n) sh tv kv jv) S = .ok (e2 ku n (s + n) sh (some (.p (.int (t : Int)))) kv jv) S := rfl
    have ri : itRange1 (eVar 1) (e2 ku n (s + n) sh (some (.p (.int (t : Int)))) kv jv) S = .ok (rangeP 0 n) S := itRange1_nat rfl (by omega)
    rw [ge, nox_ok, go_ok, sFor_eq, ri, go_ok, rangeP_ints, e]
    exact e2'
end Law

namespace Pl
def insN (n : Nat) : List Nat → List Nat
  | [] => [n]
  | m :: r => if n ≤ m then n :: m :: r else m :: insN n r
def sortN : List Nat → List Nat
  | [] => []
  | n :: r => insN n (sortN r)
theorem insN_mem {n e : Nat} : ∀ {l : List Nat}, e ∈ insN n l ↔ e = n ∨ e ∈ l
  | [] => by simp [insN]
  | m :: r => by
    unfold insN
    split
    · simp
    · rw [List.mem_cons, insN_mem, List.mem_cons]
      constructor
      · rintro (h | h | h)
        · exact .inr (.inl h)
        · exact .inl h
        · exact .inr (.inr h)
      · rintro (h | h | h)
        · exact .inr (.inl h)
        · exact .inl h
        · exact .inr (.inr h)
theorem sortN_mem {e : Nat} : ∀ {l : List Nat}, e ∈ sortN l ↔ e ∈ l
  | [] => Iff.rfl
  | n :: r => by
    show e ∈ insN n (sortN r) ↔ _
    rw [insN_mem, sortN_mem, List.mem_cons]
theorem insN_sorted {n : Nat} : ∀ {l : List Nat}, n ∉ l → l.Pairwise (· < ·) → (insN n l).Pairwise (· < ·)
  | [], _, _ => by simp [insN]
  | m :: r, hn, h => by
    have hm : n ≠ m := fun z => hn (by rw [z]; exact List.mem_cons_self)
    rw [List.pairwise_cons] at h
    unfold insN
    split
    · rw [List.pairwise_cons, List.pairwise_cons]
      refine ⟨fun e he => ?_, h⟩
      rcases List.mem_cons.mp he with rfl | he
      · omega
      · have := h.1 e he
        omega
    · rw [List.pairwise_cons]
      refine ⟨fun e he => ?_, insN_sorted (fun z => hn (List.mem_cons_of_mem _ z)) h.2⟩
      rcases insN_mem.mp he with rfl | he
      · omega
      · exact h.1 e he
theorem sortN_sorted : ∀ {l : List Nat}, l.Nodup → (sortN l).Pairwise (· < ·)
  | [], _ => List.Pairwise.nil
  | n :: r, h => by
    rw [List.nodup_cons] at h
    exact insN_sorted (fun z => h.1 (sortN_mem.mp z)) (sortN_sorted h.2)
structure Near (n : Nat) (near : List (List Nat)) : Prop where
  len : near.length = n
  srt : ∀ i, i < n → (row near i).Pairwise (· < ·)
  lt : ∀ i, i < n → ∀ e ∈ row near i, e < n
  rfl_ : ∀ i, i < n → i ∈ row near i
  trs : ∀ i, i < n → ∀ j ∈ row near i, ∀ e ∈ row near j, e ∈ row near i
theorem row_map {rows : List (List Nat)} {f : List Nat → List Nat} {i : Nat} (h : i < rows.length) : row (rows.map f) i = f (row rows i) := by
  unfold row
  rw [List.getD_eq_getElem?_getD, List.getElem?_map, List.getD_eq_getElem?_getD, List.getElem?_eq_getElem h]
  rfl
theorem near_of {n : Nat} {rows : List (List Nat)} (g : Good n rows) (t : Trans n rows) : Near n (rows.map sortN) := by
  have e : ∀ i, i < n → row (rows.map sortN) i = sortN (row rows i) := fun i hi => row_map (by rw [g.len]; exact hi)
  refine ⟨by rw [List.length_map]; exact g.len, fun i hi => ?_, fun i hi x hx => ?_, fun i hi => ?_, fun i hi j hj x hx => ?_⟩
  · rw [e i hi]; exact sortN_sorted (g.nd i hi)
  · rw [e i hi, sortN_mem] at hx; exact g.lt i hi x hx
  · rw [e i hi, sortN_mem]; exact g.rfl_ i hi
  · rw [e i hi, sortN_mem] at hj
    have hjn := g.lt i hi j hj
    rw [e j hjn, sortN_mem] at hx
    rw [e i hi, sortN_mem]
    exact t i hi j hj x hx
end Pl
namespace Mir
open L2 Pl
theorem ins_nums (n : Nat) : ∀ l : List Nat, ins (n : Int) (l.map fun (e : Nat) => (e : Int)) = (insN n l).map fun (e : Nat) => (e : Int)
  | [] => rfl
  | m :: r => by
    show (if (n : Int) ≤ (m : Int) then (n : Int) :: (m : Int) :: r.map (fun (e : Nat) => (e : Int)) else (m : Int) :: ins (n : Int) (r.map fun (e : Nat) => (e : Int))) = (if n ≤ m then n :: m :: r else m :: insN n r).map _
    by_cases h : n ≤ m
    · rw [if_pos h, if_pos (by omega)]; rfl
    · rw [if_neg h, if_neg (by omega), ins_nums n r]; rfl
theorem isort_nums : ∀ l : List Nat, isort (l.map fun (e : Nat) => (e : Int)) = (sortN l).map fun (e : Nat) => (e : Int)
  | [] => rfl
  | n :: r => by
    show ins (n : Int) (isort (r.map fun (e : Nat) => (e : Int))) = _
    rw [isort_nums r, ins_nums]
    rfl
theorem nums_map (l : List Nat) : nums l = (l.map fun (e : Nat) => (e : Int)).map P.int := by
  unfold nums
  rw [List.map_map]
  rfl
theorem pSorted_nums (l : List Nat) : pSorted [.lst (nums l)] = some (.lst (nums (sortN l))) := by
  show (intsOf (nums l)).map (fun ns => P.lst ((isort ns).map P.int)) = _
  rw [nums_map, intsOf_map, nums_map]
  show some (P.lst ((isort (l.map fun (e : Nat) => (e : Int))).map P.int)) = _
  rw [isort_nums]
end Mir
namespace Law
open PySem L2 Mir Pl
theorem RdL.frzN {s n : Nat} {S : Sto} {d : Vl} {l : List Nat} (m : Nat) (h : RdL s n S d l) : ∃ S', frzN (m + 1) d S = .ok (.lst (nums l)) S' ∧ Fz s n S S' := by
  have e : Mir.frzN (m + 1) d S = Mir.frz d S := by
    rcases h with rfl | ⟨i, hi, rfl, h | h⟩
    · rfl
    · rw [frz_lst h]
      unfold Mir.frzN
      dsimp only
      rw [h]
    · rw [frz_fz h]
      unfold Mir.frzN
      dsimp only
      rw [h]
  rw [e]
  exact h.frz
theorem seq_frz {s n : Nat} (m : Nat) : ∀ (ds : List Vl) (ls : List (List Nat)) (S : Sto), ds.length = ls.length → (∀ i d, ds[i]? = some d → RdL s n S d (row ls i)) → ∃ S', seqR (Mir.frzN (m + 1)) ds S = .ok (ls.map fun l => P.lst (nums l)) S' ∧ Fz s n S S'
  | [], [], S, _, _ => ⟨S, rfl, Fz.refl⟩
  | [], _ :: _, S, h, _ => by cases h
  | _ :: _, [], S, h, _ => by cases h
  | d :: ds, l :: ls, S, h, hr => by
    obtain ⟨S1, e1, f1⟩ := (hr 0 d rfl).frzN m
    obtain ⟨S2, e2, f2⟩ := seq_frz m ds ls S1 (by simpa using h) fun i d' hd => f1.rdl _ _ (hr (i + 1) d' (by simpa using hd))
    refine ⟨S2, ?_, f1.trans f2⟩
    unfold seqR
    rw [e1, bind_ok, e2, bind_ok]
    rfl
theorem near_frz {s n : Nat} {rows : List (List Nat)} {S : Sto} (hr : rows.length = n) (h : N2 s n rows S) : ∃ S', Mir.frz (.c (s + n)) S = .ok (.lst (rows.map fun l => P.lst (nums l))) S' ∧ S'.length = S.length ∧ ∀ i, i < s → S'[i]? = S[i]? := by
  obtain ⟨ds, h1, h2, h3⟩ := h.ex
  obtain ⟨S1, e1, f1⟩ := seq_frz (s := s) (n := n) 1 ds rows S (by rw [h2, hr]) fun i d hd => by
    have hi : i < n := by
      have := (List.getElem?_eq_some_iff.mp hd).1
      omega
    obtain ⟨d', e, r⟩ := h3 i hi
    rw [hd] at e
    cases e
    exact r
  have ho : S1[s + n]? = some (.lsv ds) := by rw [f1.oth _ (by omega)]; exact h1
  refine ⟨S1.set (s + n) (.fz (.lst (rows.map fun l => P.lst (nums l)))), ?_, by rw [List.length_set]; exact f1.len, fun i hi => by rw [get_set_ne (by omega)]; exact f1.oth i (.inl hi)⟩
  unfold Mir.frz
  unfold Mir.frzN
  dsimp only
  rw [h1]
  dsimp only
  rw [e1, bind_ok, ho]
theorem drawn_near_ok {S : Sto} {ku n : Nat} (hu : Urn S ku) (hn : n < 1000) : ∃ near S', m__law_drawn_near [.c ku, .p (.int (n : Int))] S = .ok (.p (.lst (near.map fun l => P.lst (nums l)))) S' ∧ Near n near ∧ Ux ku S S' := by
  have hku : ku < S.length := by
    obtain ⟨a, b, c, h, _⟩ := hu
    exact (List.getElem?_eq_some_iff.mp h).1
  generalize hs : S.length = s at hku
  -- the cells
  have hi0 : itRange1 (eVar 1) [some (.c ku), some (.p (.int (n : Int))), none, none, none, none, none, none, none] S = .ok (rangeP 0 n) S := itRange1_nat rfl (by omega)
  have lcv : eLcV (itRange1 (eVar 1)) [2] (gNm 2) tsYes (eLstC (aCons (eVar 2) aNil)) [some (.c ku), some (.p (.int (n : Int))), none, none, none, none, none, none, none] S =
      .ok (.c (s + n)) (S ++ ((List.range n).map fun (i : Nat) => Cell.lst [P.int (i : Int)]) ++ [.lsv ((List.range n).map fun i => Vl.c (s + i))]) := by
    unfold eLcV
    rw [hi0, bind_ok, rangeP_length, if_pos (by omega), rangeP_ints]
    show ((lcGoV (gNm 2) tsYes (eLstC (aCons (eVar 2) aNil)) [some (.c ku), some (.p (.int (n : Int))), none, none, none, none, none, none, none] (nums (List.range n)) S).bind _) = _
    rw [cells_new (by simp), bind_ok, List.length_range]
    have hl : (S ++ (List.range n).map fun (i : Nat) => Cell.lst [P.int (i : Int)]).length = s + n := by simp [hs]
    rw [hl, hs]
    rw [if_pos]
    unfold below
    rw [List.all_map, List.all_eq_true]
    intro i hi
    have := List.mem_range.mp hi
    exact decide_eq_true (by omega)
  generalize hS1 : (S ++ ((List.range n).map fun (i : Nat) => Cell.lst [P.int (i : Int)]) ++ [.lsv ((List.range n).map fun i => Vl.c (s + i))]) = S1 at lcv
  have n1 : N1 s n ((List.range n).map fun i => [i]) S1 := by
    rw [← hS1]
    refine ⟨by simp [hs]; omega, fun i hi => ?_, ?_⟩
    · rw [List.getElem?_append_left (by simp [hs]; omega), List.getElem?_append_right (by omega), hs, Nat.add_sub_cancel_left, List.getElem?_map, List.getElem?_range hi, row_range hi]
      rfl
    · rw [List.getElem?_append_right (by simp [hs])]
      simp [hs]
  have low0 : Low ku s S S1 := by
    have lo : ∀ j, j < s → S1[j]? = S[j]? := fun j hj => by
      rw [← hS1, List.append_assoc, List.getElem?_append_left (by omega)]
    refine ⟨?_, fun j hj _ => lo j hj⟩
    obtain ⟨a, b, c, h, h'⟩ := hu
    exact ⟨a, b, c, by rw [lo _ hku]; exact h, h'⟩
  obtain ⟨x, S2, ep, hx, ux⟩ := pick_ok (xs := [.int 3, .int 4, .int 7]) low0.urn (by simp) (by simp)
  obtain ⟨sh, rfl, hsh, hsh2⟩ : ∃ sh : Int, x = .int sh ∧ 0 < sh ∧ sh < 1000 := by
    simp at hx
    rcases hx with rfl | rfl | rfl
    · exact ⟨3, rfl, by decide, by decide⟩
    · exact ⟨4, rfl, by decide, by decide⟩
    · exact ⟨7, rfl, by decide, by decide⟩
  have n2 := n1.ux hku ux
  have low2 := low0.ux ux
  obtain ⟨kv1, jv1, rows, S3, ep1, n3, low3, g3⟩ := phase1 (kv := none) (jv := none) hku hsh hsh2 hn n2 low2
  obtain ⟨tv4, kv4, jv4, S4, ep2, n4, lo4⟩ := grow_all (ku := ku) (sh := sh) hn (List.range n) rows S3 none kv1 jv1 g3 n3.n2
  rw [List.length_range] at n4
  obtain ⟨g5, t5⟩ := close_ok g3
  obtain ⟨S5, ef, l5, lo5⟩ := near_frz g5.len n4
  refine ⟨(closeR n n rows).map sortN, S5.take S.length, ?_, near_of g5 t5, ?_⟩
  · unfold m__law_drawn_near b__law_drawn_near
    rw [mkF_eq 2 7 _ [.c ku, .p (.int (n : Int))] S rfl]
    show endF S.length ((sSeq _ _) [some (.c ku), some (.p (.int (n : Int))), none, none, none, none, none, none, none] S) = _
    have a1 : sParG 2 (aCons (eLcV (itRange1 (eVar 1)) [2] (gNm 2) tsYes (eLstC (aCons (eVar 2) aNil))) (aCons (eFn m__law_pick (aCons (eVar 0) (aCons (eLst (aCons (eC (.int 3)) (aCons (eC (.int 4)) (aCons (eC (.int 7)) aNil)))) aNil))) aNil)) (gCn (gNm 4) (gCn (gNm 5) gNl)) [some (.c ku), some (.p (.int (n : Int))), none, none, none, none, none, none, none] S = .ok (.nx (e1 ku n (s + n) sh none none)) S2 := by
      rw [sParG_eq, aCons_eq, lcv, bind_ok]
      simp [ep]
    rw [sSeq_eq, a1, thn_nx, sSeq_eq, ep1, thn_nx, sSeq_eq]
    have a2 : sFor (itRange1 (eVar 1)) (gNm 3) (sFor (itRange1 (eVar 1)) (gNm 2) bK) (e1 ku n (s + n) sh kv1 jv1) S3 = .ok (.nx (e2 ku n (s + n) sh tv4 kv4 jv4)) S4 := by
      have ri : itRange1 (eVar 1) (e1 ku n (s + n) sh kv1 jv1) S3 = .ok (rangeP 0 n) S3 := itRange1_nat rfl (by omega)
      rw [sFor_eq, ri, go_ok, rangeP_ints]
      exact ep2
    show endF S.length ((sFor (itRange1 (eVar 1)) (gNm 3) (sFor (itRange1 (eVar 1)) (gNm 2) bK) (e1 ku n (s + n) sh kv1 jv1) S3).thn _) = _
    rw [a2, thn_nx, sRet_eq]
    rw [eLc_map (S1 := S5) (xs := (closeR n n rows).map fun l => P.lst (nums l)) (fun x => match x with
        | .lst xs => (pSorted [.lst xs]).getD .non
        | _ => .non) ?_ ?_ ?_]
    · rw [go_ok, endF_p]
      have em : (((closeR n n rows).map fun l => P.lst (nums l)).map fun x => match x with
        | .lst xs => (pSorted [.lst xs]).getD .non
        | _ => .non) = ((closeR n n rows).map sortN).map fun l => P.lst (nums l) := by
        rw [List.map_map, List.map_map]
        apply List.map_congr_left
        intro l _
        show (pSorted [.lst (nums l)]).getD .non = P.lst (nums (sortN l))
        rw [pSorted_nums]
        rfl
      rw [em]
    · simp [ef]
    · rw [List.length_map, g5.len]; omega
    · intro y hy
      obtain ⟨l, _, rfl⟩ := List.mem_map.mp hy
      refine ⟨[some (.c ku), some (.p (.int (n : Int))), kv4, tv4, some (.c (s + n)), some (.p (.int sh)), jv4, some (.p (.lst (nums l))), none], rfl, ?_⟩
      simp [pSorted_nums]
  · rw [hs]
    have hl5 : S5.length = s + n + 1 := l5.trans n4.len
    have lo : ∀ j, j < s → (S5.take s)[j]? = S3[j]? := fun j hj => by
      rw [List.getElem?_take_of_lt hj, lo5 j hj, lo4 j hj]
    refine ⟨by rw [List.length_take, hs, hl5]; omega, ?_, fun j hj => ?_⟩
    · obtain ⟨a, b, c, h, h'⟩ := low3.urn
      exact ⟨a, b, c, by rw [lo ku hku]; exact h, h'⟩
    · by_cases hjs : j < s
      · rw [lo j hjs, low3.oth j hjs hj]
      · rw [List.getElem?_eq_none (by rw [List.length_take]; omega), List.getElem?_eq_none (by omega)]
end Law

namespace Pl
theorem erase_perm {A : Type} : ∀ {l : List A} {j : Nat} {x : A}, l[j]? = some x → (x :: l.eraseIdx j).Perm l
  | [], j, x, h => by simp at h
  | y :: l, 0, x, h => by
    have : y = x := by simpa using h
    subst this
    exact List.Perm.refl _
  | y :: l, j + 1, x, h => by
    have ih := erase_perm (l := l) (j := j) (x := x) (by simpa using h)
    exact (List.Perm.swap y x _).trans (ih.cons y)
end Pl
namespace Mir
abbrev txts (l : List (List Nat)) : List P := l.map P.str
@[simp] theorem strs_length (l : List (List Nat)) : (txts l).length = l.length := List.length_map _
theorem fPopAt_lst {S : Sto} {k j : Nat} {xs : List P} {y : P} (h : S[k]? = some (.lst xs)) (hj : xs[j]? = some y) (hl : xs.length < 1000000) : fPopAt (.c k) [.p (.int (j : Int))] S = .ok (.p y) (S.set k (.lst (xs.eraseIdx j))) := by
  have hjl := (List.getElem?_eq_some_iff.mp hj).1
  have h1 : -(2 ^ 62) ≤ (j : Int) := Int.le_trans (b := 0) (by decide) (by omega)
  have h2 : (j : Int) < 2 ^ 62 := Int.lt_of_lt_of_le (b := 1000000) (by omega) (by decide)
  have h3 : L2.ixN xs.length (j : Int) = some j := by
    unfold L2.ixN
    rw [if_pos (by omega), if_pos (by omega)]
    simp
  unfold fPopAt
  dsimp only
  rw [h]
  dsimp only
  rw [h3]
  dsimp only
  rw [hj]
  dsimp only
  rw [if_pos ⟨h1, h2⟩]
end Mir
namespace Law
open PySem L2 Mir Pl
def POOL : List (List Nat) := [[97], [98], [120], [99, 57], [97, 98, 99, 100, 101, 102, 103, 104], [110], [122, 122], [112, 48], [105], [97, 108, 108], [109, 49]]
theorem eraseIdx_strs (l : List (List Nat)) (j : Nat) : (txts l).eraseIdx j = txts (l.eraseIdx j) := by
  unfold txts
  induction l generalizing j with
  | nil => rfl
  | cons a l ih =>
    cases j with
    | zero => rfl
    | succ j =>
      show P.str a :: (List.map P.str l).eraseIdx j = _
      rw [ih]
      rfl
theorem drawn_names_ok {S : Sto} {ku n : Nat} (hu : Urn S ku) (hn : n ≤ 11) : ∃ names S', m__law_drawn_names [.c ku, .p (.int (n : Int))] S = .ok (.p (.lst (txts names))) S' ∧ names.length = n ∧ names.Nodup ∧ (∀ x ∈ names, x ∈ POOL) ∧ Ux ku S S' := by
  have hku : ku < S.length := by
    obtain ⟨a, b, c, h, _⟩ := hu
    exact (List.getElem?_eq_some_iff.mp h).1
  let e0 : Option Vl → En := fun tv => [some (.c ku), some (.p (.int (n : Int))), tv, some (.c S.length), some (.c (S.length + 1))]
  let body : MS := sExpr (eMut isL fApp (eVar 4) (aCons (eMut isL fPopAt (eVar 3) (aCons (eFn m__law_ladle (aCons (eVar 0) (aCons (eCall pLen (aCons (eVar 3) aNil)) aNil))) aNil)) aNil))
  let I : Nat → En → Sto → Prop := fun i ρ T => ∃ tv pool found, ρ = e0 tv ∧ T.length = S.length + 2 ∧ Low ku S.length S T ∧ T[S.length]? = some (.lst (txts pool)) ∧ T[S.length + 1]? = some (.lst (txts found)) ∧ found.length = i ∧ (pool ++ found).Perm POOL
  have start : I 0 (e0 none) (S ++ [.lst (txts POOL)] ++ [.lst []]) := by
    refine ⟨none, POOL, [], rfl, by simp, ⟨?_, fun j hj _ => ?_⟩, ?_, ?_, rfl, by rw [List.append_nil]⟩
    · obtain ⟨a, b, c, h, h'⟩ := hu
      exact ⟨a, b, c, by rw [List.append_assoc, List.getElem?_append_left hku]; exact h, h'⟩
    · rw [List.append_assoc, List.getElem?_append_left hj]
    · rw [List.append_assoc, List.getElem?_append_right (Nat.le_refl _)]
      simp
    · rw [List.getElem?_append_right (by simp)]
      simp
      skip
  have turns := forGo_rng (g := gNm 2) (b := body) I n (e0 none) _ start ?_
  · obtain ⟨ρ', T, e, tv, pool, found, rfl, hl, low, h1, h2, h3, h4⟩ := turns
    have hnd : (pool ++ found).Nodup := h4.symm.nodup (by decide)
    refine ⟨found, (T.set (S.length + 1) (.fz (.lst (txts found)))).take S.length, ?_, h3, (List.nodup_append.mp hnd).2.1, fun x hx => h4.mem_iff.mp (List.mem_append_right _ hx), ?_⟩
    · unfold m__law_drawn_names b__law_drawn_names
      rw [mkF_eq 2 3 _ [.c ku, .p (.int (n : Int))] S rfl]
      show endF S.length ((sSeq (sPar 3 4 _) _) [some (.c ku), some (.p (.int (n : Int))), none, none, none] S) = _
      have a1 : sPar 3 4 (aCons (eLstC (aCons (eC (.str [97])) (aCons (eC (.str [98])) (aCons (eC (.str [120])) (aCons (eC (.str [99, 57])) (aCons (eC (.str [97, 98, 99, 100, 101, 102, 103, 104])) (aCons (eC (.str [110])) (aCons (eC (.str [122, 122])) (aCons (eC (.str [112, 48])) (aCons (eC (.str [105])) (aCons (eC (.str [97, 108, 108])) (aCons (eC (.str [109, 49])) aNil)))))))))))) (aCons (eLstC aNil) aNil)) [some (.c ku), some (.p (.int (n : Int))), none, none, none] S = .ok (.nx (e0 none)) (S ++ [.lst (txts POOL)] ++ [.lst []]) := by
        simp [e0, POOL, txts]
      have a2 : sFor (itRange1 (eVar 1)) (gNm 2) body (e0 none) (S ++ [.lst (txts POOL)] ++ [.lst []]) = .ok (.nx (e0 tv)) T := by
        have ri : ∀ T, itRange1 (eVar 1) (e0 none) T = .ok (rangeP 0 n) T := fun T => itRange1_nat rfl (by omega)
        rw [sFor_eq, ri, go_ok]
        exact e
      rw [sSeq_eq, a1, thn_nx, sSeq_eq, a2, thn_nx]
      show endF S.length (.ok (.rt (.c (S.length + 1))) T) = _
      unfold endF retV
      dsimp only
      rw [if_neg (by omega), frz_lst h2, bind_ok]
    · refine ⟨by rw [List.length_take, List.length_set, hl]; omega, ?_, fun j hj => ?_⟩
      · obtain ⟨a, b, c, h, h'⟩ := low.urn
        exact ⟨a, b, c, by rw [List.getElem?_take_of_lt hku, get_set_ne (by omega)]; exact h, h'⟩
      · by_cases hjs : j < S.length
        · rw [List.getElem?_take_of_lt hjs, get_set_ne (by omega)]
          exact low.oth j hjs hj
        · rw [List.getElem?_eq_none (by rw [List.length_take]; omega), List.getElem?_eq_none (by omega)]
  · rintro i ρ T hi ⟨tv, pool, found, rfl, hl, low, h1, h2, h3, h4⟩
    have hlen := h4.length_eq
    rw [List.length_append, h3] at hlen
    have hpl : POOL.length = 11 := rfl
    obtain ⟨r, T1, er, r0, r1, ux⟩ := ladle_ok (n := (pool.length : Int)) low.urn (by omega) (by omega)
    have hr : r.toNat < pool.length := by omega
    have k1 : T1[S.length]? = some (.lst (txts pool)) := by rw [ux.oth _ (by omega)]; exact h1
    have k2 : T1[S.length + 1]? = some (.lst (txts found)) := by rw [ux.oth _ (by omega)]; exact h2
    have hx : (txts pool)[r.toNat]? = some (.str pool[r.toNat]) := by
      unfold txts
      rw [List.getElem?_map, List.getElem?_eq_getElem hr]
      rfl
    have pop := fPopAt_lst k1 hx (by rw [strs_length]; omega)
    rw [Int.toNat_of_nonneg r0] at pop
    have k3 : (T1.set S.length (.lst ((txts pool).eraseIdx r.toNat)))[S.length + 1]? = some (.lst (txts found)) := by rw [get_set_ne (by omega)]; exact k2
    refine ⟨e0 (some (.p (.int (i : Int)))), T, e0 (some (.p (.int (i : Int)))), (T1.set S.length (.lst ((txts pool).eraseIdx r.toNat))).set (S.length + 1) (.lst (txts found ++ [.str pool[r.toNat]])), rfl, .inl ?_, some (.p (.int (i : Int))), pool.eraseIdx r.toNat, found ++ [pool[r.toNat]], rfl, ?_, ?_, ?_, ?_, ?_, ?_⟩
    · show (sExpr (eMut isL fApp (eVar 4) (aCons (eMut isL fPopAt (eVar 3) (aCons (eFn m__law_ladle (aCons (eVar 0) (aCons (eCall pLen (aCons (eVar 3) aNil)) aNil))) aNil)) aNil))) [some (.c ku), some (.p (.int (n : Int))), some (.p (.int (i : Int))), some (.c S.length), some (.c (S.length + 1))] T = _
      simp [isL_lst h2, isL_lst h1, rds_rd (rd_lst h1), er]
      rw [pop]
      simp
      rw [fApp_lst k3 (by rw [strs_length]; omega)]
      simp [e0]
    · rw [List.length_set, List.length_set, ux.len, hl]
    · exact ((low.ux ux).set (Nat.le_refl _) hku).set (by omega) hku
    · rw [get_set_ne (by omega), get_set_self k1, eraseIdx_strs]
    · rw [get_set_self k3]
      unfold txts
      rw [List.map_append]
      rfl
    · rw [List.length_append, h3]; rfl
    · refine List.Perm.trans ?_ h4
      have p1 := erase_perm (l := pool) (j := r.toNat) (x := pool[r.toNat]) (List.getElem?_eq_getElem hr)
      have p2 : (pool.eraseIdx r.toNat ++ (found ++ [pool[r.toNat]])).Perm ((pool[r.toNat] :: pool.eraseIdx r.toNat) ++ found) := by
        rw [← List.append_assoc]
        exact (List.perm_append_singleton _ _)
      exact p2.trans (p1.append_right found)
end Law

namespace Mir
open L2
@[simp] theorem tyP_str (x : List Nat) : tyP "str" (.str x) = true := rfl
@[simp] theorem tyP_lst (x : List P) : tyP "list" (.lst x) = true := rfl
theorem strsOf_txts (l : List (List Nat)) : strsOf (txts l) = some l := by
  induction l with
  | nil => rfl
  | cons a l ih =>
    show (strsOf (txts l)).map (a :: ·) = _
    rw [ih]
    rfl
theorem pJoin_txts {s : List Nat} {l : List (List Nat)} (h : (l.map (·.length)).sum + l.length * s.length ≤ 1000000) : pJoin (.str s) [.lst (txts l)] = some (.str (TL.joinL s l)) := by
  show (strsOf (txts l)).bind _ = _
  rw [strsOf_txts]
  show (if (l.map (·.length)).sum + l.length * s.length ≤ 1000000 then some (P.str (TL.joinL s l)) else none) = _
  rw [if_pos h]
theorem joinL_len (s : List Nat) : ∀ l : List (List Nat), (TL.joinL s l).length ≤ (l.map (·.length)).sum + l.length * s.length
  | [] => Nat.zero_le _
  | [p] => by
    show p.length ≤ _
    simp
  | p :: q :: r => by
    have ih := joinL_len s (q :: r)
    show (p ++ (s ++ TL.joinL s (q :: r))).length ≤ _
    rw [List.length_append, List.length_append, List.map_cons, List.sum_cons, List.length_cons, Nat.add_mul]
    omega
theorem sum_len_le {c : Nat} : ∀ {l : List (List Nat)}, (∀ x ∈ l, x.length ≤ c) → (l.map (·.length)).sum ≤ l.length * c
  | [], _ => by simp
  | a :: l, h => by
    have ih := sum_len_le (l := l) fun x hx => h x (List.mem_cons_of_mem _ hx)
    have h0 := h a List.mem_cons_self
    rw [List.map_cons, List.sum_cons, List.length_cons, Nat.add_mul]
    omega
theorem pSplit_of {x s : List Nat} (h : s ≠ []) (h2 : (s.all fun c => decide (c < 256)) = true) (h3 : x.length ≤ 1000000) : pSplit (.str x) [.str s] = some (.lst (txts (TL.spl s 0 [] x))) := by
  show (if s ≠ [] ∧ (s.all fun c => decide (c < 256)) = true ∧ x.length ≤ 1000000 then some (P.lst ((TL.spl s 0 [] x).map P.str)) else none) = _
  rw [if_pos ⟨h, h2, h3⟩]
  skip
end Mir
namespace Law
open PySem L2 Mir Pl
structure NameOk (x : List Nat) : Prop where
  is : ∀ S, m_is_name [.p (.str x)] S = .ok (.p (.bl true)) S
  c10 : 10 ∉ x
  c32 : 32 ∉ x
  c58 : 58 ∉ x
  len : x.length ≤ 8
  asc : (x.all fun c => decide (c < 128)) = true
theorem name_of {x : List Nat} (h : ∀ S, b_is_name [some (.p (.str x)), none, none] S = .ok (.rt (.p (.bl true))) S) (S : Sto) : m_is_name [.p (.str x)] S = .ok (.p (.bl true)) S := by
  unfold m_is_name
  rw [mkF_eq 1 2 _ [.p (.str x)] S rfl]
  show endF S.length (b_is_name [some (.p (.str x)), none, none] S) = _
  rw [h S, endF_p, take_self]
theorem pool_ok : ∀ x ∈ POOL, NameOk x := by
  intro x hx
  unfold POOL at hx
  simp only [List.mem_cons, List.not_mem_nil, or_false] at hx
  rcases hx with rfl | rfl | rfl | rfl | rfl | rfl | rfl | rfl | rfl | rfl | rfl <;> exact ⟨name_of fun S => by kernel_rfl, by decide, by decide, by decide, by decide, by decide⟩
def rowT (x : List Nat) (ns : List (List Nat)) : List Nat := x ++ ([58, 32] ++ TL.joinL [32] ns)
theorem rowT_len {x : List Nat} {ns : List (List Nat)} (hx : x.length ≤ 8) (h : ∀ y ∈ ns, y.length ≤ 8) : (rowT x ns).length ≤ 10 + ns.length * 9 := by
  unfold rowT
  have h1 := joinL_len [32] ns
  have h2 := sum_len_le h
  rw [List.length_append, List.length_append]
  simp at h1 ⊢
  omega
theorem read_row_ok {x : List Nat} {ns : List (List Nat)} (hx : NameOk x) (h0 : ns ≠ []) (h : ∀ y ∈ ns, NameOk y) (hl : ns.length ≤ 1000) (S : Sto) : m_read_row [.p (.str (rowT x ns))] S = .ok (.p (.tup [.str x, .lst (txts ns)])) S := by
  have hlen := rowT_len hx.len fun y hy => (h y hy).len
  have hj := joinL_len [32] ns
  have hs := sum_len_le fun y hy => (h y hy).len
  have hpart : pPartition (.str (rowT x ns)) [.str [58, 32]] = some (.tup [.str x, .str [58, 32], .str (TL.joinL [32] ns)]) := by
    have e : partL [58, 32] (rowT x ns) = (x, [58, 32], TL.joinL [32] ns) := by
      unfold partL rowT
      rw [TL.par_part1 hx.c58]
      rfl
    show (if ([58, 32] : List Nat) ≠ [] ∧ (rowT x ns).length ≤ 100000 then some (P.tup [.str (partL [58, 32] (rowT x ns)).1, .str (partL [58, 32] (rowT x ns)).2.1, .str (partL [58, 32] (rowT x ns)).2.2]) else none) = _
    rw [if_pos ⟨by decide, by omega⟩, e]
  have hsp : TL.spl [32] 0 [] (TL.joinL [32] ns) = ns := TL.spl_join h0 fun p hp => (h p hp).c32
  have hsplit : pSplit (.str (TL.joinL [32] ns)) [.str [32]] = some (.lst (txts ns)) := by
    rw [pSplit_of (by decide) (by decide) (by simp at hj; omega), hsp]
  have hne : pNe (.str [58, 32]) (.str []) = some (.bl true) := rfl
  unfold m_read_row b_read_row
  rw [mkF_eq 1 4 _ [.p (.str (rowT x ns))] S rfl]
  simp [hpart, hsplit, hne, hx.is]
end Law

namespace Mir
open L2 Pl
theorem inP_txts (x : List Nat) (l : List (List Nat)) : inP (.str x) (txts l) = l.contains x := by
  induction l with
  | nil => rfl
  | cons a l ih =>
    show ((a == x) || inP (.str x) (txts l)) = _
    rw [ih, List.contains_cons]
    congr 1
    rw [Bool.eq_iff_iff]
    simp
    exact eq_comm
theorem flat_txts (l : List (List Nat)) : (txts l).all flatP = true := by
  unfold txts
  rw [List.all_map, List.all_eq_true]
  intro x _
  rfl
theorem pIn2_txts (x : List Nat) (l : List (List Nat)) : pIn2 (.str x) (.lst (txts l)) = some (.bl (l.contains x)) := by
  unfold pIn2 pIn
  dsimp only
  rw [flat_txts]
  show (match some (P.bl (inP (.str x) (txts l))) with
    | some z => some z
    | none => pInD (.str x) (.lst (txts l))) = _
  rw [inP_txts]
theorem idxP_txts {x : List Nat} : ∀ {l : List (List Nat)} {i k : Nat}, l.Nodup → l[i]? = some x → idxP (.str x) (txts l) k = some (k + i)
  | [], i, k, _, h => by simp at h
  | a :: l, 0, k, _, h => by
    have : a = x := by simpa using h
    subst this
    show (if (a == a) = true then some k else _) = _
    rw [if_pos (by simp)]
    rfl
  | a :: l, i + 1, k, nd, h => by
    rw [List.nodup_cons] at nd
    have h' : l[i]? = some x := by simpa using h
    have hm : x ∈ l := List.mem_of_getElem? h'
    show (if (a == x) = true then some k else idxP (.str x) (txts l) (k + 1)) = _
    rw [if_neg (by
      simp
      intro z
      subst z
      exact nd.1 hm), idxP_txts nd.2 h']
    congr 1
    omega
theorem pIndex_txts {x : List Nat} {l : List (List Nat)} {i : Nat} (nd : l.Nodup) (h : l[i]? = some x) : pIndex (.lst (txts l)) [.str x] = some (.int (i : Int)) := by
  show (if flatP (.str x) && (txts l).all flatP then (idxP (.str x) (txts l) 0).map (fun (i : Nat) => P.int (i : Int)) else none) = _
  rw [flat_txts]
  show (idxP (.str x) (txts l) 0).map (fun (i : Nat) => P.int (i : Int)) = _
  rw [idxP_txts nd h, Nat.zero_add]
  rfl
end Mir
namespace Law
open PySem L2 Mir Pl
def pick (order : List (List Nat)) (l : List Nat) : List (List Nat) := l.map fun i => order.getD i []
def sq (b : Bool) (xs : List P) : P := if b then .lst xs else .tup xs
theorem items_sq (b : Bool) (xs : List P) : itemsP (sq b xs) = some xs := by cases b <;> rfl
theorem pIdx_at {order : List (List Nat)} {i : Nat} (nd : order.Nodup) (hi : i < order.length) : pIndex (.lst (txts order)) [.str (order.getD i [])] = some (.int (i : Int)) := by
  refine pIndex_txts nd ?_
  rw [List.getElem?_eq_getElem hi]
  simp [hi]
theorem mem_getD {order : List (List Nat)} {i : Nat} (hi : i < order.length) : order.getD i [] ∈ order := by
  simp [hi]
theorem places_ok {order : List (List Nat)} {l : List Nat} (nd : order.Nodup) (hl : ∀ i ∈ l, i < order.length) : (txts (pick order l)).map (fun p => (pIndex (.lst (txts order)) [p]).getD .non) = nums l := by
  unfold txts pick nums
  rw [List.map_map, List.map_map]
  apply List.map_congr_left
  intro i hi
  show (pIndex (.lst (txts order)) [.str (order.getD i [])]).getD .non = _
  rw [pIdx_at nd (hl i hi)]
  rfl
theorem blsOf_map (l : List Bool) : blsOf (l.map P.bl) = some l := by
  induction l with
  | nil => rfl
  | cons a l ih =>
    show (blsOf (l.map P.bl)).map (a :: ·) = _
    rw [ih]
    rfl
theorem pAll_bls (l : List Bool) : pAll [.lst (l.map P.bl)] = some (.bl (l.all id)) := by
  show (blsOf (l.map P.bl)).map (fun ns => P.bl (ns.all id)) = _
  rw [blsOf_map]
  rfl
theorem pAny_bls (l : List Bool) : pAny [.lst (l.map P.bl)] = some (.bl (l.any id)) := by
  show (blsOf (l.map P.bl)).map (fun ns => P.bl (ns.any id)) = _
  rw [blsOf_map]
  rfl
theorem is_ordered_ok {order : List (List Nat)} {l : List Nat} {b : Bool} (nd : order.Nodup) (hl : ∀ i ∈ l, i < order.length) (hs : l.Pairwise (· < ·)) (hn : l.length ≤ 1000) (S : Sto) :
    m_is_ordered [.p (.lst (txts order)), .p (sq b (txts (pick order l)))] S = .ok (.p (.bl true)) S := by
  have e1 : eLc (itOf (eVar 1)) [3] (gNm 3) tsYes (eIfM (tVal (eBin pIn2 (eVar 3) (eVar 0))) (eMthT "list" pIndex (eVar 0) (aCons (eVar 3) aNil)) (eUn pNeg (eC (.int 1)))) [some (.p (.lst (txts order))), some (.p (sq b (txts (pick order l)))), none, none, none] S = .ok (.p (.lst (nums l))) S := by
    rw [eLc_map (S1 := S) (xs := txts (pick order l)) (fun p => (pIndex (.lst (txts order)) [p]).getD .non) ?_ ?_ ?_, places_ok nd hl]
    · simp [items_sq]
    · rw [strs_length]; unfold pick; rw [List.length_map]; omega
    · intro x hx
      obtain ⟨y, hy, rfl⟩ := List.mem_map.mp hx
      obtain ⟨i, hi, rfl⟩ := List.mem_map.mp hy
      refine ⟨[some (.p (.lst (txts order))), some (.p (sq b (txts (pick order l)))), none, some (.p (.str (order.getD i []))), none], rfl, ?_⟩
      have hm : order.contains (order.getD i []) = true := by rw [List.contains_iff_mem]; exact mem_getD (hl i hi)
      have e := pIdx_at nd (hl i hi)
      have e2 := pIn2_txts (order.getD i []) order
      rw [hm] at e2
      generalize order.getD i [] = z at e e2 ⊢
      simp [e, e2]
  have e2 : eLc (itOf (eVar 2)) [4] (gNm 4) tsYes (eBin (pIB fun i j => decide (j ≤ i)) (eVar 4) (eC (.int 0))) [some (.p (.lst (txts order))), some (.p (sq b (txts (pick order l)))), some (.p (.lst (nums l))), none, none] S = .ok (.p (.lst ((l.map fun _ => true).map P.bl))) S := by
    rw [eLc_map (S1 := S) (xs := nums l) (fun _ => .bl true) ?_ ?_ ?_]
    · unfold nums
      rw [List.map_map, List.map_map]
      rfl
    · simp
    · rw [ints_length]; omega
    · intro x hx
      obtain ⟨i, hi, rfl⟩ := List.mem_map.mp hx
      refine ⟨[some (.p (.lst (txts order))), some (.p (sq b (txts (pick order l)))), some (.p (.lst (nums l))), none, some (.p (.int (i : Int)))], rfl, ?_⟩
      simp
  have e3 : eLc (itRange2 (eC (.int 1)) (eCall pLen (aCons (eVar 2) aNil))) [4] (gNm 4) tsYes (eBin bLt (eItem (eVar 2) (eBin (pI fun i j => i - j) (eVar 4) (eC (.int 1)))) (eItem (eVar 2) (eVar 4))) [some (.p (.lst (txts order))), some (.p (sq b (txts (pick order l)))), some (.p (.lst (nums l))), none, none] S = .ok (.p (.lst (((List.range (l.length - 1)).map fun _ => true).map P.bl))) S := by
    rw [eLc_map (S1 := S) (xs := rangeP 1 (l.length - 1)) (fun _ => .bl true) ?_ ?_ ?_]
    · unfold rangeP
      rw [List.map_map, List.map_map]
      rfl
    · have := itRange2_nat (a := eC (.int 1)) (b := eCall pLen (aCons (eVar 2) aNil)) (ρ := [some (.p (.lst (txts order))), some (.p (sq b (txts (pick order l)))), some (.p (.lst (nums l))), none, none]) (S := S) (S1 := S) (S2 := S) (m := 1) (n := l.length) rfl (by simp) (by omega) (by omega)
      exact this
    · rw [rangeP_length]; omega
    · intro x hx
      obtain ⟨i, hi, rfl⟩ := List.mem_map.mp hx
      have hi' := List.mem_range.mp hi
      refine ⟨[some (.p (.lst (txts order))), some (.p (sq b (txts (pick order l)))), some (.p (.lst (nums l))), none, some (.p (.int (1 + (i : Int))))], rfl, ?_⟩
      have a1 : atI (nums l) (1 + (i : Int) - 1) = some (.int ((l[i]'(by omega) : Nat) : Int)) := by
        have e : (1 + (i : Int) - 1) = ((i : Nat) : Int) := by omega
        rw [e]
        refine atN ?_
        unfold nums
        rw [List.getElem?_map, List.getElem?_eq_getElem (by omega)]
        rfl
      have a2 : atI (nums l) (1 + (i : Int)) = some (.int ((l[i + 1]'(by omega) : Nat) : Int)) := by
        have e : (1 + (i : Int)) = ((i + 1 : Nat) : Int) := by omega
        rw [e]
        refine atN ?_
        unfold nums
        rw [List.getElem?_map, List.getElem?_eq_getElem (by omega)]
        rfl
      have lt : l[i]'(by omega) < l[i + 1]'(by omega) := List.pairwise_iff_getElem.mp hs i (i + 1) (by omega) (by omega) (by omega)
      simp [a1, a2]
      omega
  unfold m_is_ordered b_is_ordered
  rw [mkF_eq 2 3 _ [.p (.lst (txts order)), .p (sq b (txts (pick order l)))] S rfl]
  show endF S.length ((sSeq (sAsg (eLc (itOf (eVar 1)) [3] (gNm 3) tsYes (eIfM (tVal (eBin pIn2 (eVar 3) (eVar 0))) (eMthT "list" pIndex (eVar 0) (aCons (eVar 3) aNil)) (eUn pNeg (eC (.int 1))))) (gNm 2)) _) [some (.p (.lst (txts order))), some (.p (sq b (txts (pick order l)))), none, none, none] S) = _
  rw [sSeq_eq, sAsg_eq, e1, go_ok, gNm_eq, nox_ok, go_ok, thn_nx]
  have t2 : (l.map fun _ => true).all id = true := by simp
  have t3 : ((List.range (l.length - 1)).map fun _ => true).all id = true := by simp
  have f2 := eCall1_of (g := pAll) e2 (by rw [pAll_bls, t2])
  have f3 := eCall1_of (g := pAll) e3 (by rw [pAll_bls, t3])
  show endF S.length (sRet (eAndM _ _) [some (.p (.lst (txts order))), some (.p (sq b (txts (pick order l)))), some (.p (.lst (nums l))), none, none] S) = _
  rw [sRet_eq, eAnd_eq, f2, bind_ok, tst_bl, bind_ok]
  dsimp only
  rw [f3, go_ok, endF_p, take_self]
end Law

namespace Law
open PySem L2 Mir Pl
theorem sum_nat (l : List Nat) : (l.map fun (e : Nat) => (e : Int)).sum = ((l.sum : Nat) : Int) := by
  induction l with
  | nil => rfl
  | cons a l ih => rw [List.map_cons, List.sum_cons, ih, List.sum_cons]; omega
theorem pSum_nums (l : List Nat) : pSum [.lst (nums l)] = some (.int ((l.sum : Nat) : Int)) := by
  show (intsOf (nums l)).map (fun ns => P.int ns.sum) = _
  rw [nums_map, intsOf_map]
  show some (P.int (l.map fun (e : Nat) => (e : Int)).sum) = _
  rw [sum_nat]
theorem shl_ok {i : Nat} (h : i ≤ 1000) : pIC bPow (fun i j => i * 2 ^ j.toNat) (.int 1) (.int (i : Int)) = some (.int ((2 ^ i : Nat) : Int)) := by
  rw [pIC_int]
  have hb : bPow 1 (i : Int) = true := by
    unfold bPow
    rw [decide_eq_true (show (0 : Int) ≤ (i : Int) by omega), decide_eq_true (show (i : Int) ≤ 1000000 by omega)]
    decide
  rw [if_pos hb, Int.toNat_natCast, Int.one_mul]
  congr 2
theorem bits_of_ok {order : List (List Nat)} {l : List Nat} {b : Bool} (nd : order.Nodup) (hl : ∀ i ∈ l, i < order.length) (hn : l.length ≤ 1000) (ho : order.length ≤ 1000) (S : Sto) :
    m_bits_of [.p (.lst (txts order)), .p (sq b (txts (pick order l)))] S = .ok (.p (.int ((bitsN l : Nat) : Int))) S := by
  have e1 : eLc (itOf (eVar 1)) [2] (gNm 2) tsYes (eBin (pIC bPow fun i j => i * 2 ^ j.toNat) (eC (.int 1)) (eMthT "list" pIndex (eVar 0) (aCons (eVar 2) aNil))) [some (.p (.lst (txts order))), some (.p (sq b (txts (pick order l)))), none] S = .ok (.p (.lst (nums (l.map fun a => 2 ^ a)))) S := by
    rw [eLc_map (S1 := S) (xs := txts (pick order l)) (fun p => match (pIndex (.lst (txts order)) [p]).getD .non with
      | .int i => .int ((2 ^ i.toNat : Nat) : Int)
      | _ => .non) ?_ ?_ ?_]
    · congr 3
      unfold txts pick nums
      rw [List.map_map, List.map_map, List.map_map]
      apply List.map_congr_left
      intro i hi
      show (match (pIndex (.lst (txts order)) [.str (order.getD i [])]).getD .non with
        | .int i => P.int ((2 ^ i.toNat : Nat) : Int)
        | _ => .non) = _
      rw [pIdx_at nd (hl i hi)]
      rfl
    · simp [items_sq]
    · rw [strs_length]; unfold pick; rw [List.length_map]; omega
    · intro x hx
      obtain ⟨y, hy, rfl⟩ := List.mem_map.mp hx
      obtain ⟨i, hi, rfl⟩ := List.mem_map.mp hy
      refine ⟨[some (.p (.lst (txts order))), some (.p (sq b (txts (pick order l)))), some (.p (.str (order.getD i [])))], rfl, ?_⟩
      have e := pIdx_at nd (hl i hi)
      have hi2 := hl i hi
      have sh := shl_ok (i := i) (by omega)
      generalize order.getD i [] = z at e ⊢
      rw [eBin_eq, eC_eq, bind_ok]
      have em : eMthT "list" pIndex (eVar 0) (aCons (eVar 2) aNil) [some (.p (.lst (txts order))), some (.p (sq b (txts (pick order l)))), some (.p (.str z))] S = .ok (.p (.int (i : Int))) S := by simp [e]
      rw [em, bind_ok, op2_pp, sh, ofO_some, e]
      rfl
  unfold m_bits_of b_bits_of
  rw [mkF_eq 2 1 _ [.p (.lst (txts order)), .p (sq b (txts (pick order l)))] S rfl]
  show endF S.length (sRet (eCall pSum (aCons _ aNil)) [some (.p (.lst (txts order))), some (.p (sq b (txts (pick order l)))), none] S) = _
  rw [sRet_eq, eCall1_of e1 (pSum_nums _), go_ok, endF_p, take_self]
  rfl
theorem indexes_of_ok {B n : Nat} (hB : B < 2 ^ n) (hn : n ≤ 1000) (S : Sto) : m_indexes_of [.p (.int (B : Int))] S = .ok (.p (.lst (nums (mem_ n B)))) S := by
  have hbits : PySem.Builtin.Int.intBits (B : Int) ≤ n := intBits_le_iff.mpr (by simpa using hB)
  generalize hm : PySem.Builtin.Int.intBits (B : Int) = m at hbits
  have hBm : B < 2 ^ m := by
    have := intBits_le_iff.mp (Nat.le_of_eq hm)
    simpa using this
  have e1 : eLc (itRange1 (eUn pBits (eVar 0))) [1] (gNm 1) (tVal (eBin pEq (eBin (pI fun i j => Builtin.bitAnd i j) (eBin (pIC bShr fun i j => i / 2 ^ j.toNat) (eVar 0) (eVar 1)) (eC (.int 1))) (eC (.int 1)))) (eVar 1) [some (.p (.int (B : Int))), none] S = .ok (.p (.lst (nums (mem_ n B)))) S := by
    rw [eLc_pure (S1 := S) (xs := nums (List.range m)) (fun p => match p with
      | .int i => B.testBit i.toNat
      | _ => false) id ?_ ?_ ?_]
    · rw [List.map_id, filter_ints fun i => B.testBit i]
      · unfold mem_
        rw [filter_range hbits]
        intro i hi
        exact Nat.testBit_lt_two_pow (Nat.lt_of_lt_of_le hBm (Nat.pow_le_pow_right (by decide) hi))
      · intro e
        simp
    · rw [← rangeP_ints]
      refine itRange1_nat ?_ (by omega)
      rw [eUn_eq, eVar_0, bind_ok, op1_p]
      show ofO (some (P.int ((PySem.Builtin.Int.intBits (B : Int) : Nat) : Int))) S = _
      rw [hm]
      rfl
    · rw [ints_length, List.length_range]; omega
    · intro x hx
      obtain ⟨i, hi, rfl⟩ := List.mem_map.mp hx
      refine ⟨[some (.p (.int (B : Int))), some (.p (.int (i : Int)))], rfl, ?_, fun _ => rfl⟩
      have hs : bShr (B : Int) (i : Int) = true := decide_eq_true (by omega)
      have ht := shr_test B i
      rw [Int.toNat_natCast] at ht
      simp only [tVal_eq, eBin_eq, eVar_0, eVar_s, eC_eq, bind_ok, op2_pp, pIC_int, hs, if_true, ofO_some, pI_int, ht, pEq_int, tst_bl, Int.toNat_natCast]
      cases B.testBit i <;> rfl
  unfold m_indexes_of b_indexes_of
  rw [mkF_eq 1 1 _ [.p (.int (B : Int))] S rfl]
  show endF S.length (sRet _ [some (.p (.int (B : Int))), none] S) = _
  rw [sRet_eq, e1, go_ok, endF_p, take_self]
end Law

namespace Law
open PySem L2 Mir Pl
theorem nums_getD {l : List Nat} {i : Nat} (h : i < l.length) : (nums l).getD i .non = .int ((l.getD i 0 : Nat) : Int) := by
  unfold nums
  simp [h]
def bitsL (near : List (List Nat)) : List Nat := near.map bitsN
theorem bitsL_at {near : List (List Nat)} {i : Nat} (h : i < near.length) : (bitsL near).getD i 0 = bitsN (row near i) := by
  unfold bitsL row
  simp [h]
theorem all_bits_ok {l : List Nat} (h : l.length ≤ 1000) (S : Sto) : m_all_bits [.p (.lst (nums l))] S = .ok (.p (.int ((2 ^ l.length - 1 : Nat) : Int))) S := by
  have sh := shl_ok (i := l.length) h
  have hp : 0 < 2 ^ l.length := Nat.pow_pos (by decide)
  unfold m_all_bits b_all_bits
  rw [mkF_eq 1 0 _ [.p (.lst (nums l))] S rfl]
  show endF S.length (sRet _ [some (.p (.lst (nums l)))] S) = _
  have e : eBin (pIC bPow fun i j => i * 2 ^ j.toNat) (eC (.int 1)) (eCall pLen (aCons (eVar 0) aNil)) [some (.p (.lst (nums l)))] S = .ok (.p (.int ((2 ^ l.length : Nat) : Int))) S := by
    rw [eBin_eq, eC_eq, bind_ok, eCall1_of (x := .lst (nums l)) rfl (pLen_lst _), bind_ok, op2_pp, ints_length, sh, ofO_some]
  rw [sRet_eq, eBin_eq, e, bind_ok, eC_eq, bind_ok, op2_pp, pI_int, ofO_some, go_ok, endF_p, take_self]
  congr 3
  omega
theorem closure_of_ok {near : List (List Nat)} {n B : Nat} (hn : near.length = n) (h : n ≤ 1000) (S : Sto) :
    m_closure_of [.p (.lst (nums (bitsL near))), .p (.int (B : Int))] S = .ok (.p (.int ((bitsN ((List.range n).filter fun i => decide (bitsN (row near i) &&& B ≠ 0)) : Nat) : Int))) S := by
  have hl : (nums (bitsL near)).length = n := by rw [ints_length]; unfold bitsL; rw [List.length_map]; exact hn
  have e1 : eLc (itEnum (eVar 0)) [2, 3] (gTp 2 (gCn (gNm 2) (gCn (gNm 3) gNl))) (tVal (eBin pNe (eBin (pI fun i j => Builtin.bitAnd i j) (eVar 3) (eVar 1)) (eC (.int 0)))) (eBin (pIC bPow fun i j => i * 2 ^ j.toNat) (eC (.int 1)) (eVar 2)) [some (.p (.lst (nums (bitsL near)))), some (.p (.int (B : Int))), none, none] S =
      .ok (.p (.lst (nums (((List.range n).filter fun i => decide (bitsN (row near i) &&& B ≠ 0)).map fun a => 2 ^ a)))) S := by
    rw [eLc_gen (List.range n) (fun (i : Nat) => P.tup [.int (i : Int), (nums (bitsL near)).getD i .non]) (fun i => decide (bitsN (row near i) &&& B ≠ 0)) (fun (i : Nat) => P.int ((2 ^ i : Nat) : Int)) ?_ ?_ ?_]
    · unfold nums
      rw [List.map_map]
      rfl
    · rw [← hl]; exact itEnum_p rfl
    · rw [List.length_range]; omega
    · intro i hi
      have hi' := List.mem_range.mp hi
      have ev : (nums (bitsL near)).getD i .non = .int ((bitsN (row near i) : Nat) : Int) := by
        rw [nums_getD (by rw [ints_length] at hl; omega), bitsL_at (by omega)]
      refine ⟨[some (.p (.lst (nums (bitsL near)))), some (.p (.int (B : Int))), some (.p (.int (i : Int))), some (.p (.int ((bitsN (row near i) : Nat) : Int)))], by rw [ev]; rfl, ?_, fun _ => ?_⟩
      · simp only [tVal_eq, eBin_eq, eVar_0, eVar_s, eC_eq, bind_ok, op2_pp, ofO_some, pI_int, band_nat, pNe_int, tst_bl]
        congr 1
        rw [Bool.eq_iff_iff]
        simp
      · simp only [eBin_eq, eVar_0, eVar_s, eC_eq, bind_ok, op2_pp, shl_ok (show i ≤ 1000 by omega), ofO_some]
  unfold m_closure_of b_closure_of
  rw [mkF_eq 2 2 _ [.p (.lst (nums (bitsL near))), .p (.int (B : Int))] S rfl]
  show endF S.length (sRet (eCall pSum (aCons _ aNil)) [some (.p (.lst (nums (bitsL near)))), some (.p (.int (B : Int))), none, none] S) = _
  rw [sRet_eq, eCall1_of e1 (pSum_nums _), go_ok, endF_p, take_self]
  rfl
theorem inside_of_ok {near : List (List Nat)} {n B : Nat} (hn : near.length = n) (h : n ≤ 1000) (S : Sto) :
    m_inside_of [.p (.lst (nums (bitsL near))), .p (.int (B : Int))] S = .ok (.p (.int ((bitsN ((List.range n).filter fun i => decide (bitsN (row near i) - (bitsN (row near i) &&& B) = 0)) : Nat) : Int))) S := by
  have hl : (nums (bitsL near)).length = n := by rw [ints_length]; unfold bitsL; rw [List.length_map]; exact hn
  have e1 : eLc (itEnum (eVar 0)) [2, 3] (gTp 2 (gCn (gNm 2) (gCn (gNm 3) gNl))) (tVal (eBin pEq (eBin (pI fun i j => Builtin.bitAnd i j) (eVar 3) (eUn pInv (eVar 1))) (eC (.int 0)))) (eBin (pIC bPow fun i j => i * 2 ^ j.toNat) (eC (.int 1)) (eVar 2)) [some (.p (.lst (nums (bitsL near)))), some (.p (.int (B : Int))), none, none] S =
      .ok (.p (.lst (nums (((List.range n).filter fun i => decide (bitsN (row near i) - (bitsN (row near i) &&& B) = 0)).map fun a => 2 ^ a)))) S := by
    rw [eLc_gen (List.range n) (fun (i : Nat) => P.tup [.int (i : Int), (nums (bitsL near)).getD i .non]) (fun i => decide (bitsN (row near i) - (bitsN (row near i) &&& B) = 0)) (fun (i : Nat) => P.int ((2 ^ i : Nat) : Int)) ?_ ?_ ?_]
    · unfold nums
      rw [List.map_map]
      rfl
    · rw [← hl]; exact itEnum_p rfl
    · rw [List.length_range]; omega
    · intro i hi
      have hi' := List.mem_range.mp hi
      have ev : (nums (bitsL near)).getD i .non = .int ((bitsN (row near i) : Nat) : Int) := by
        rw [nums_getD (by rw [ints_length] at hl; omega), bitsL_at (by omega)]
      refine ⟨[some (.p (.lst (nums (bitsL near)))), some (.p (.int (B : Int))), some (.p (.int (i : Int))), some (.p (.int ((bitsN (row near i) : Nat) : Int)))], by rw [ev]; rfl, ?_, fun _ => ?_⟩
      · have inv : pInv (.int (B : Int)) = some (.int (Builtin.bitNot (B : Int))) := rfl
        simp only [tVal_eq, eBin_eq, eUn_eq, eVar_0, eVar_s, eC_eq, bind_ok, op1_p, op2_pp, inv, ofO_some, pI_int, band_not, pEq_int, tst_bl]
        congr 1
        rw [Bool.eq_iff_iff, beq_iff_eq, decide_eq_true_eq]
        omega
      · simp only [eBin_eq, eVar_0, eVar_s, eC_eq, bind_ok, op2_pp, shl_ok (show i ≤ 1000 by omega), ofO_some]
  unfold m_inside_of b_inside_of
  rw [mkF_eq 2 2 _ [.p (.lst (nums (bitsL near))), .p (.int (B : Int))] S rfl]
  show endF S.length (sRet (eCall pSum (aCons _ aNil)) [some (.p (.lst (nums (bitsL near)))), some (.p (.int (B : Int))), none, none] S) = _
  rw [sRet_eq, eCall1_of e1 (pSum_nums _), go_ok, endF_p, take_self]
  rfl
end Law

namespace Law
open PySem L2 Mir Pl
theorem near_nd {n : Nat} {near : List (List Nat)} (h : Near n near) {i : Nat} (hi : i < n) : (row near i).Nodup := (h.srt i hi).imp fun z => Nat.ne_of_lt z
theorem near_bits {n : Nat} {near : List (List Nat)} (h : Near n near) {i : Nat} (hi : i < n) : bitsN (row near i) < 2 ^ n := bits_lt (near_nd h hi) (h.lt i hi)
theorem near_sub {n : Nat} {near : List (List Nat)} (h : Near n near) {i o : Nat} (hi : i < n) (ho : o ∈ row near i) : bitsN (row near o) - (bitsN (row near o) &&& bitsN (row near i)) = 0 := by
  have hon := h.lt i hi o ho
  apply Nat.eq_of_testBit_eq
  intro j
  rw [test_minus, bits_test (near_nd h hon), bits_test (near_nd h hi), Nat.zero_testBit]
  cases q : (row near o).contains j with
  | false => rfl
  | true =>
    have := h.trs i hi o ho j (by simpa using q)
    simp [this]
theorem is_seeing_ok {n : Nat} {near : List (List Nat)} (h : Near n near) (hn : n ≤ 1000) (S : Sto) : m_is_seeing [.p (.lst (nums (bitsL near)))] S = .ok (.p (.bl true)) S := by
  have hl : (nums (bitsL near)).length = n := by rw [ints_length]; unfold bitsL; rw [List.length_map]; exact h.len
  have loop := forGo_list (g := gTp 2 (gCn (gNm 1) (gCn (gNm 2) gNl))) (b := sIf (tOrM (tVal (eBin pEq (eBin (pI fun i j => Builtin.bitAnd i j) (eBin (pIC bShr fun i j => i / 2 ^ j.toNat) (eVar 2) (eVar 1)) (eC (.int 1))) (eC (.int 0)))) (tVal (eCall pAny (aCons (eLc (itOf (eFn m_indexes_of (aCons (eVar 2) aNil))) [3] (gNm 3) tsYes (eBin pNe (eBin (pI fun i j => Builtin.bitAnd i j) (eItem (eVar 0) (eVar 3)) (eUn pInv (eVar 2))) (eC (.int 0)))) aNil)))) (sRet (eC (.bl false))) sPass)
    (fun (i : Nat) => P.tup [.int (i : Int), (nums (bitsL near)).getD i .non]) (fun _ ρ S' => S' = S ∧ ∃ a b, ρ = [some (.p (.lst (nums (bitsL near)))), a, b, none]) (List.range n) [some (.p (.lst (nums (bitsL near)))), none, none, none] S ⟨rfl, none, none, rfl⟩ ?_
  · obtain ⟨ρ', S', e, rfl, a, b, rfl⟩ := loop
    unfold m_is_seeing b_is_seeing
    rw [mkF_eq 1 3 _ [.p (.lst (nums (bitsL near)))] S' rfl]
    show endF S'.length (sSeq (sFor (itEnum (eVar 0)) _ _) _ [some (.p (.lst (nums (bitsL near)))), none, none, none] S') = _
    rw [sSeq_eq, sFor_eq, itEnum_p (xs := nums (bitsL near)) (S1 := S') rfl, go_ok, hl, e, thn_nx, sRet_eq, eC_eq, go_ok, endF_p, take_self]
  · rintro k i ρ S' hk ⟨rfl, a, b, rfl⟩
    have hi : i < n := by
      have hm := List.mem_of_getElem? hk
      exact List.mem_range.mp hm
    have ev : (nums (bitsL near)).getD i .non = .int ((bitsN (row near i) : Nat) : Int) := by
      rw [nums_getD (by rw [ints_length] at hl; omega), bitsL_at (by rw [h.len]; omega)]
    refine ⟨[some (.p (.lst (nums (bitsL near)))), some (.p (.int (i : Int))), some (.p (.int ((bitsN (row near i) : Nat) : Int))), none], S', [some (.p (.lst (nums (bitsL near)))), some (.p (.int (i : Int))), some (.p (.int ((bitsN (row near i) : Nat) : Int))), none], S', by rw [ev]; rfl, .inl ?_, rfl, _, _, rfl⟩
    have hs : ∀ B : Nat, bShr (B : Int) (i : Int) = true := fun B => decide_eq_true (by omega)
    have ht := shr_test (bitsN (row near i)) i
    rw [Int.toNat_natCast] at ht
    have hself : (bitsN (row near i)).testBit i = true := by
      rw [bits_test (near_nd h hi)]
      simpa using h.rfl_ i hi
    rw [hself, if_pos rfl] at ht
    have e1 : eLc (itOf (eFn m_indexes_of (aCons (eVar 2) aNil))) [3] (gNm 3) tsYes (eBin pNe (eBin (pI fun i j => Builtin.bitAnd i j) (eItem (eVar 0) (eVar 3)) (eUn pInv (eVar 2))) (eC (.int 0))) [some (.p (.lst (nums (bitsL near)))), some (.p (.int (i : Int))), some (.p (.int ((bitsN (row near i) : Nat) : Int))), none] S' = .ok (.p (.lst (((row near i).map fun _ => false).map P.bl))) S' := by
      rw [eLc_genm (row near i) (fun (j : Nat) => P.int (j : Int)) (fun _ => .bl false) ?_ ?_ ?_]
      · rw [List.map_map]
        rfl
      · have := indexes_of_ok (near_bits h hi) hn S'
        rw [mem_bits (h.srt i hi) (h.lt i hi)] at this
        have ea : aCons (eVar 2) aNil [some (.p (.lst (nums (bitsL near)))), some (.p (.int (i : Int))), some (.p (.int ((bitsN (row near i) : Nat) : Int))), none] S' = .ok [.p (.int ((bitsN (row near i) : Nat) : Int))] S' := rfl
        rw [itOf_eq, eFn_eq, ea, bind_ok, this, bind_ok, frz_p, bind_ok, itemsP_lst]
        skip
      · have := nodup_len n _ (near_nd h hi) (h.lt i hi)
        omega
      · intro o ho
        have hon := h.lt i hi o ho
        refine ⟨[some (.p (.lst (nums (bitsL near)))), some (.p (.int (i : Int))), some (.p (.int ((bitsN (row near i) : Nat) : Int))), some (.p (.int (o : Int)))], rfl, ?_⟩
        have ea : atI (nums (bitsL near)) (o : Int) = some (.int ((bitsN (row near o) : Nat) : Int)) := by
          refine atN ?_
          have ol : o < (bitsL near).length := by rw [ints_length] at hl; omega
          rw [List.getElem?_map, List.getElem?_eq_getElem ol]
          have := bitsL_at (near := near) (i := o) (by rw [h.len]; omega)
          rw [← this]
          simp [ol]
        have inv : pInv (.int ((bitsN (row near i) : Nat) : Int)) = some (.int (Builtin.bitNot ((bitsN (row near i) : Nat) : Int))) := rfl
        simp only [eBin_eq, eItem_eq, eUn_eq, eVar_0, eVar_s, eC_eq, bind_ok, nv_p, ixV_p, op1_p, op2_pp, pIx_lst, ea, inv, ofO_some, pI_int, band_not, pNe_int, near_sub h hi ho]
        rfl
    have t0 : ((row near i).map fun _ => false).any id = false := by simp
    have f1 := eCall1_of (g := pAny) e1 (by rw [pAny_bls, t0])
    rw [sIf_eq, tOr_eq]
    have t1 : tVal (eBin pEq (eBin (pI fun i j => Builtin.bitAnd i j) (eBin (pIC bShr fun i j => i / 2 ^ j.toNat) (eVar 2) (eVar 1)) (eC (.int 1))) (eC (.int 0))) [some (.p (.lst (nums (bitsL near)))), some (.p (.int (i : Int))), some (.p (.int ((bitsN (row near i) : Nat) : Int))), none] S' = .ok false S' := by
      simp only [tVal_eq, eBin_eq, eVar_0, eVar_s, eC_eq, bind_ok, op2_pp, pIC_int, hs, if_true, ofO_some, pI_int, Int.toNat_natCast, ht, pEq_int, tst_bl]
      rfl
    rw [t1, bind_ok]
    dsimp only
    rw [tVal_eq, f1, bind_ok, tst_bl, go_ok]
    rfl
end Law

namespace Law
open PySem L2 Mir Pl
theorem map_getD {A : Type} (d : A) (l : List A) : ((List.range l.length).map fun i => l.getD i d) = l := by
  apply List.ext_getElem?
  intro i
  rw [List.getElem?_map]
  by_cases h : i < l.length
  · rw [List.getElem?_range h, List.getElem?_eq_getElem h]
    simp [h]
  · rw [List.getElem?_eq_none (by rw [List.length_range]; omega), List.getElem?_eq_none (by omega)]
    rfl
structure Spc (n : Nat) (order : List (List Nat)) (near : List (List Nat)) : Prop where
  len : order.length = n
  nd : order.Nodup
  nm : ∀ x ∈ order, NameOk x
  near : Near n near
  pos : 0 < n
  le : n ≤ 256
def rowAt (order near : List (List Nat)) (i : Nat) : List Nat := rowT (order.getD i []) (pick order (row near i))
def textT (n : Nat) (order near : List (List Nat)) : List Nat := TL.joinL [10] ((List.range n).map (rowAt order near))
section
variable {n : Nat} {order near : List (List Nat)} (h : Spc n order near)
include h
theorem Spc.at_ {i : Nat} (hi : i < n) : NameOk (order.getD i []) := h.nm _ (mem_getD (by rw [h.len]; exact hi))
theorem Spc.pk {i : Nat} (hi : i < n) : ∀ y ∈ pick order (row near i), NameOk y := fun y hy => by
  obtain ⟨j, hj, rfl⟩ := List.mem_map.mp hy
  exact h.at_ (h.near.lt i hi j hj)
theorem Spc.pk_len {i : Nat} (hi : i < n) : (pick order (row near i)).length ≤ n := by
  unfold pick
  rw [List.length_map]
  exact nodup_len n _ (near_nd h.near hi) (h.near.lt i hi)
theorem Spc.pk_ne {i : Nat} (hi : i < n) : pick order (row near i) ≠ [] := by
  unfold pick
  intro z
  have := List.map_eq_nil_iff.mp z
  have h2 := h.near.rfl_ i hi
  rw [this] at h2
  cases h2
theorem joinL_mem {c : Nat} {s : List Nat} (hs : c ∉ s) : ∀ {l : List (List Nat)}, (∀ x ∈ l, c ∉ x) → c ∉ TL.joinL s l
  | [], _ => by simp [TL.joinL]
  | [p], hl => by simpa [TL.joinL] using hl p List.mem_cons_self
  | p :: q :: r, hl => by
    have ih := joinL_mem hs (l := q :: r) fun x hx => hl x (List.mem_cons_of_mem _ hx)
    have h0 := hl p List.mem_cons_self
    show c ∉ p ++ (s ++ TL.joinL s (q :: r))
    simp only [List.mem_append, not_or]
    exact ⟨h0, hs, ih⟩
theorem Spc.row_10 {i : Nat} (hi : i < n) : 10 ∉ rowAt order near i := by
  unfold rowAt rowT
  have h1 := (h.at_ hi).c10
  have h2 := joinL_mem h (c := 10) (s := [32]) (by decide) fun x hx => (h.pk hi x hx).c10
  simp only [List.mem_append, not_or]
  exact ⟨h1, by decide, h2⟩
theorem Spc.split : TL.spl [10] 0 [] (textT n order near) = (List.range n).map (rowAt order near) := by
  refine TL.spl_join ?_ fun p hp => ?_
  · intro z
    have := List.map_eq_nil_iff.mp z
    have hl := congrArg List.length this
    rw [List.length_range] at hl
    have := h.pos
    simp at hl
    omega
  · obtain ⟨i, hi, rfl⟩ := List.mem_map.mp hp
    exact h.row_10 (List.mem_range.mp hi)
theorem Spc.text_len : (textT n order near).length ≤ 1000000 := by
  have h1 := joinL_len [10] ((List.range n).map (rowAt order near))
  have h2 := sum_len_le (c := 2400) (l := (List.range n).map (rowAt order near)) fun x hx => by
    obtain ⟨i, hi, rfl⟩ := List.mem_map.mp hx
    have hi := List.mem_range.mp hi
    have a := rowT_len (h.at_ hi).len fun y hy => (h.pk hi y hy).len
    have b := h.pk_len hi
    have c := h.le
    show (rowT (order.getD i []) (pick order (row near i))).length ≤ 2400
    omega
  rw [List.length_map, List.length_range] at h1 h2
  have := h.le
  unfold textT
  simp only [List.length_cons, List.length_nil] at h1
  omega
end
end Law

namespace Law
open PySem L2 Mir Pl
theorem dat_txts {l : List (List Nat)} (h : ∀ x ∈ l, (x.all fun c => decide (c < 128)) = true) (m : Nat) : datL (txts l) m = true := by
  induction l with
  | nil => rfl
  | cons a l ih =>
    show ((P.str a).dat m && datL (txts l) m) = true
    rw [ih fun x hx => h x (List.mem_cons_of_mem _ hx)]
    have : (P.str a).dat m = true := by
      have e : (P.str a).dat m = a.all fun c => decide (c < 128) := by cases m <;> rfl
      rw [e]; exact h a List.mem_cons_self
    rw [this]
    rfl
theorem datL_map {A : Type} {f : A → P} {m : Nat} : ∀ {l : List A}, (∀ x ∈ l, (f x).dat m = true) → datL (l.map f) m = true
  | [], _ => rfl
  | a :: l, h => by
    show ((f a).dat m && datL (l.map f) m) = true
    rw [h a List.mem_cons_self, datL_map fun x hx => h x (List.mem_cons_of_mem _ hx)]
    rfl
def rowP (order near : List (List Nat)) (i : Nat) : P := .tup [.str (order.getD i []), .lst (txts (pick order (row near i)))]
theorem merge_ok {order : List (List Nat)} (vs : Nat → P) (nd : order.Nodup) : ∀ (is : List Nat) (ks xs : List P) (done : List (List Nat)), ks = txts done → (done ++ is.map fun i => order.getD i []).Nodup →
    ∃ xs', mergeP (is.map fun i => P.tup [.str (order.getD i []), vs i]) ks xs = some (txts (done ++ is.map fun i => order.getD i []), xs')
  | [], ks, xs, done, hk, _ => ⟨xs, by rw [hk]; show some (_, _) = _; rw [List.map_nil, List.append_nil]⟩
  | i :: is, ks, xs, done, hk, hd => by
    have hnot : order.getD i [] ∉ done := by
      rw [List.map_cons, List.nodup_append] at hd
      intro z
      exact hd.2.2 _ z _ List.mem_cons_self rfl
    have hany : (ks.any fun a => keq a (.str (order.getD i []))) = false := by
      rw [hk]
      unfold txts
      rw [List.any_map, List.any_eq_false]
      intro x hx
      show ¬ ((x == order.getD i []) = true)
      simp only [beq_iff_eq]
      intro z
      rw [← z] at hnot
      exact hnot hx
    have hp : dPutK (.str (order.getD i [])) ks = txts (done ++ [order.getD i []]) := by
      unfold dPutK
      rw [hany, if_neg (by decide), hk]
      unfold txts
      rw [List.map_append]
      rfl
    obtain ⟨xs', e⟩ := merge_ok vs nd is _ (dPutV (.str (order.getD i [])) (vs i) ks xs) (done ++ [order.getD i []]) hp (by
      rw [List.append_assoc]
      exact hd)
    refine ⟨xs', ?_⟩
    rw [List.map_cons]
    show mergeP (is.map fun i => P.tup [.str (order.getD i []), vs i]) (dPutK (.str (order.getD i [])) ks) (dPutV (.str (order.getD i [])) (vs i) ks xs) = _
    rw [e, List.append_assoc]
    rfl
section
variable {n : Nat} {order near : List (List Nat)} (h : Spc n order near)
include h
theorem Spc.ordr : ((List.range n).map fun i => order.getD i []) = order := by
  have := map_getD ([] : List Nat) order
  rw [h.len] at this
  exact this
theorem Spc.dict : ∃ vs, pDictP [.lst ((List.range n).map (rowP order near))] = some (.dct (txts order) vs) := by
  obtain ⟨xs, e⟩ := merge_ok (order := order) (fun i => .lst (txts (pick order (row near i)))) h.nd (List.range n) [] [] [] rfl (by rw [List.nil_append, h.ordr]; exact h.nd)
  rw [List.nil_append, h.ordr] at e
  refine ⟨xs, ?_⟩
  show (mergeP ((List.range n).map (rowP order near)) [] []).map (fun q => P.dct q.1 q.2) = _
  have : ((List.range n).map (rowP order near)) = (List.range n).map fun i => P.tup [.str (order.getD i []), .lst (txts (pick order (row near i)))] := rfl
  rw [this, e]
  rfl
theorem Spc.none_in : pIn2 .non (.lst ((List.range n).map (rowP order near))) = some (.bl false) := by
  have hd : (P.lst ((List.range n).map (rowP order near))).dat 60 = true := by
    show datL ((List.range n).map (rowP order near)) 59 = true
    refine datL_map fun i hi => ?_
    have hi := List.mem_range.mp hi
    show ((P.str (order.getD i [])).dat 58 && (datL (txts (pick order (row near i))) 57 && true)) = true
    rw [dat_txts fun x hx => (h.pk hi x hx).asc]
    have : (P.str (order.getD i [])).dat 58 = true := (h.at_ hi).asc
    rw [this]
    rfl
  have hin : inP .non ((List.range n).map (rowP order near)) = false := by
    unfold inP
    rw [List.any_map, List.any_eq_false]
    intro i _
    show ¬ (false = true)
    decide
  have hf : (((List.range n).map (rowP order near)).all flatP) = false := by
    obtain ⟨m, rfl⟩ := Nat.exists_eq_add_of_le h.pos
    rw [Nat.add_comm, List.range_succ_eq_map]
    rfl
  unfold pIn2
  have e1 : pIn .non (.lst ((List.range n).map (rowP order near))) = none := by
    show (if flatP .non && ((List.range n).map (rowP order near)).all flatP then some (P.bl (inP .non ((List.range n).map (rowP order near)))) else none) = none
    rw [hf]
    rfl
  rw [e1]
  show (if P.non.dat 60 && (P.lst ((List.range n).map (rowP order near))).dat 60 then some (P.bl (inP .non ((List.range n).map (rowP order near)))) else none) = _
  rw [hd, hin]
  rfl
end
end Law

namespace Law
open PySem L2 Mir Pl
section
variable {n : Nat} {order near : List (List Nat)} (h : Spc n order near)
include h
theorem read_space_ok (S : Sto) : m_read_space [.p (.str (textT n order near))] S = .ok (.p (.tup [.lst (txts order), .lst (nums (bitsL near))])) S := by
  generalize hrows : ((List.range n).map (rowP order near)) = rows
  have hle := h.le
  have hrl : rows.length = n := by rw [← hrows, List.length_map, List.length_range]
  -- the rows
  have e1 : eLc (itOf (eMthT "str" pSplit (eVar 0) (aCons (eC (.str [10])) aNil))) [4] (gNm 4) tsYes (eFn m_read_row (aCons (eVar 4) aNil)) [some (.p (.str (textT n order near))), none, none, none, none, none, none] S = .ok (.p (.lst rows)) S := by
    rw [eLc_genm (List.range n) (fun i => P.str (rowAt order near i)) (rowP order near) ?_ ?_ ?_, hrows]
    · have sp := pSplit_of (x := textT n order near) (s := [10]) (by decide) (by decide) h.text_len
      rw [h.split] at sp
      simp [sp]
    · rw [List.length_range]; omega
    · intro i hi
      have hi := List.mem_range.mp hi
      refine ⟨[some (.p (.str (textT n order near))), none, none, none, some (.p (.str (rowAt order near i))), none, none], rfl, ?_⟩
      have ea : aCons (eVar 4) aNil [some (.p (.str (textT n order near))), none, none, none, some (.p (.str (rowAt order near i))), none, none] S = .ok [.p (.str (rowAt order near i))] S := rfl
      rw [eFn_eq, ea, bind_ok]
      have hp := h.pk_len hi
      exact read_row_ok (h.at_ hi) (h.pk_ne hi) (h.pk hi) (by omega) S
  -- the order
  have gT : ∀ (a b c : Nat) (i : Nat) (ρ : En), gTp 2 (gCn (gNm a) (gCn (gNm b) gNl)) (.p (rowP order near i)) ρ S = .ok ((ρ.set a (some (.p (.str (order.getD i []))))).set b (some (.p (.lst (txts (pick order (row near i))))))) S := fun a b c i ρ => rfl
  have e2 : eLc (itOf (eVar 1)) [5, 3] (gTp 2 (gCn (gNm 5) (gCn (gNm 3) gNl))) tsYes (eVar 5) [some (.p (.str (textT n order near))), some (.p (.lst rows)), none, none, none, none, none] S = .ok (.p (.lst (txts order))) S := by
    rw [eLc_genm (List.range n) (rowP order near) (fun i => .str (order.getD i [])) ?_ ?_ ?_]
    · have := h.ordr
      have e : ((List.range n).map fun i => P.str (order.getD i [])) = txts ((List.range n).map fun i => order.getD i []) := by
        unfold txts
        rw [List.map_map]
        rfl
      rw [e, this]
    · rw [hrows]; simp
    · rw [List.length_range]; omega
    · intro i hi
      exact ⟨_, gT 5 3 0 i _, rfl⟩
  -- the checks
  have e3 : eLc (itOf (eVar 1)) [5, 3] (gTp 2 (gCn (gNm 5) (gCn (gNm 3) gNl))) tsYes (eFn m_is_ordered (aCons (eVar 2) (aCons (eVar 3) aNil))) [some (.p (.str (textT n order near))), some (.p (.lst rows)), some (.p (.lst (txts order))), none, none, none, none] S = .ok (.p (.lst (((List.range n).map fun _ => true).map P.bl))) S := by
    rw [eLc_genm (List.range n) (rowP order near) (fun _ => .bl true) ?_ ?_ ?_]
    · rw [List.map_map]; rfl
    · rw [hrows]; simp
    · rw [List.length_range]; omega
    · intro i hi
      have hi := List.mem_range.mp hi
      refine ⟨_, gT 5 3 0 i _, ?_⟩
      have ea : aCons (eVar 2) (aCons (eVar 3) aNil) [some (.p (.str (textT n order near))), some (.p (.lst rows)), some (.p (.lst (txts order))), some (.p (.lst (txts (pick order (row near i))))), none, some (.p (.str (order.getD i []))), none] S = .ok [.p (.lst (txts order)), .p (.lst (txts (pick order (row near i))))] S := rfl
      have eo := is_ordered_ok (b := true) h.nd (fun j hj => by rw [h.len]; exact h.near.lt i hi j hj) (h.near.srt i hi) (by have := nodup_len n _ (near_nd h.near hi) (h.near.lt i hi); omega) S
      rw [eFn_eq]
      exact (congrArg (fun r => Res.bind r m_is_ordered) ea).trans eo
  have e4 : eLc (itOf (eVar 1)) [5, 6] (gTp 2 (gCn (gNm 5) (gCn (gNm 6) gNl))) tsYes (eFn m_bits_of (aCons (eVar 2) (aCons (eVar 6) aNil))) [some (.p (.str (textT n order near))), some (.p (.lst rows)), some (.p (.lst (txts order))), none, none, none, none] S = .ok (.p (.lst (nums (bitsL near)))) S := by
    rw [eLc_genm (List.range n) (rowP order near) (fun i => .int ((bitsN (row near i) : Nat) : Int)) ?_ ?_ ?_]
    · have e : bitsL near = (List.range n).map fun i => bitsN (row near i) := by
        have := map_getD ([] : List Nat) near
        rw [h.near.len] at this
        unfold bitsL
        rw [← this, List.map_map]
        apply List.map_congr_left
        intro i hi
        show bitsN (near.getD i []) = bitsN (row ((List.range n).map fun i => near.getD i []) i)
        rw [this]
        rfl
      rw [e]
      unfold nums
      rw [List.map_map]
      rfl
    · rw [hrows]; simp
    · rw [List.length_range]; omega
    · intro i hi
      have hi := List.mem_range.mp hi
      refine ⟨_, gT 5 6 0 i _, ?_⟩
      have ea : aCons (eVar 2) (aCons (eVar 6) aNil) [some (.p (.str (textT n order near))), some (.p (.lst rows)), some (.p (.lst (txts order))), none, none, some (.p (.str (order.getD i []))), some (.p (.lst (txts (pick order (row near i)))))] S = .ok [.p (.lst (txts order)), .p (.lst (txts (pick order (row near i))))] S := rfl
      have eo := bits_of_ok (b := true) (l := row near i) h.nd (fun j hj => by rw [h.len]; exact h.near.lt i hi j hj) (by have := nodup_len n _ (near_nd h.near hi) (h.near.lt i hi); omega) (by rw [h.len]; omega) S
      rw [eFn_eq]
      exact (congrArg (fun r => Res.bind r m_bits_of) ea).trans eo
  have ti : tVal (eBin pIn2 (eC .non) (eVar 1)) [some (.p (.str (textT n order near))), some (.p (.lst rows)), none, none, none, none, none] S = .ok false S := by
    have := h.none_in
    rw [hrows] at this
    simp [this]
  have tl : tVal (eBin (pIB fun i j => decide (j < i)) (eCall pLen (aCons (eVar 1) aNil)) (eC (.int 256))) [some (.p (.str (textT n order near))), some (.p (.lst rows)), none, none, none, none, none] S = .ok false S := by
    simp [hrl]
    omega
  obtain ⟨vs, dd⟩ := h.dict
  rw [hrows] at dd
  have td : tVal (eBin pNe (eCall pLen (aCons (eCall pDictP (aCons (eVar 1) aNil)) aNil)) (eCall pLen (aCons (eVar 1) aNil))) [some (.p (.str (textT n order near))), some (.p (.lst rows)), some (.p (.lst (txts order))), none, none, none, none] S = .ok false S := by
    have ld : pLen [.dct (txts order) vs] = some (.int ((n : Nat) : Int)) := by
      show some (P.int ((txts order).length : Int)) = _
      rw [strs_length, h.len]
    simp [dd, ld, hrl]
  have ta : tNotM (tVal (eCall pAll (aCons (eLc (itOf (eVar 1)) [5, 3] (gTp 2 (gCn (gNm 5) (gCn (gNm 3) gNl))) tsYes (eFn m_is_ordered (aCons (eVar 2) (aCons (eVar 3) aNil)))) aNil))) [some (.p (.str (textT n order near))), some (.p (.lst rows)), some (.p (.lst (txts order))), none, none, none, none] S = .ok false S := by
    have t3 : ((List.range n).map fun _ => true).all id = true := by simp
    rw [tNot_eq, tVal_eq, eCall1_of e3 (by rw [pAll_bls, t3]), bind_ok, tst_bl, bind_ok]
    rfl
  have see := is_seeing_ok h.near (by omega) S
  have tS : tVal (eFn m_is_seeing (aCons (eVar 3) aNil)) [some (.p (.str (textT n order near))), some (.p (.lst rows)), some (.p (.lst (txts order))), some (.p (.lst (nums (bitsL near)))), none, none, none] S = .ok true S := by
    have ea : aCons (eVar 3) aNil [some (.p (.str (textT n order near))), some (.p (.lst rows)), some (.p (.lst (txts order))), some (.p (.lst (nums (bitsL near)))), none, none, none] S = .ok [.p (.lst (nums (bitsL near)))] S := rfl
    rw [tVal_eq, eFn_eq, ea, bind_ok, see, bind_ok, tst_bl]
  unfold m_read_space b_read_space
  rw [mkF_eq 1 6 _ [.p (.str (textT n order near))] S rfl]
  show endF S.length (sSeq _ _ [some (.p (.str (textT n order near))), none, none, none, none, none, none] S) = _
  rw [sSeq_eq, sAsg_eq, e1, go_ok, gNm_eq, nox_ok, go_ok, thn_nx]
  show endF S.length (sSeq _ _ [some (.p (.str (textT n order near))), some (.p (.lst rows)), none, none, none, none, none] S) = _
  rw [sSeq_eq, sIf_eq, tOr_eq, ti, bind_ok]
  dsimp only
  rw [tl, go_ok]
  dsimp only
  rw [sPass_eq, thn_nx, sSeq_eq, sAsg_eq, e2, go_ok, gNm_eq, nox_ok, go_ok, thn_nx]
  show endF S.length (sSeq _ _ [some (.p (.str (textT n order near))), some (.p (.lst rows)), some (.p (.lst (txts order))), none, none, none, none] S) = _
  rw [sSeq_eq, sIf_eq, tOr_eq, td, bind_ok]
  dsimp only
  rw [ta, go_ok]
  dsimp only
  rw [sPass_eq, thn_nx, sSeq_eq, sAsg_eq, e4, go_ok, gNm_eq, nox_ok, go_ok, thn_nx]
  show endF S.length (sRet _ [some (.p (.str (textT n order near))), some (.p (.lst rows)), some (.p (.lst (txts order))), some (.p (.lst (nums (bitsL near)))), none, none, none] S) = _
  rw [sRet_eq, eIf_eq, tS, bind_ok]
  simp
end
end Law

namespace Mir
open PySem
theorem putN_new {f : Str} : ∀ {ns : List Str}, f ∉ ns → putN f ns = ns ++ [f]
  | [], _ => rfl
  | n :: ns, h => by
    show (if n = f then n :: ns else n :: putN f ns) = _
    rw [if_neg (fun z => h (by rw [z]; exact List.mem_cons_self)), putN_new fun z => h (List.mem_cons_of_mem _ z)]
    rfl
theorem putX_new {A : Type} {f : Str} {a : A} : ∀ {ns : List Str} {xs : List A}, f ∉ ns → ns.length = xs.length → putX f a ns xs = xs ++ [a]
  | [], [], _, _ => rfl
  | [], _ :: _, _, h => by cases h
  | _ :: _, [], _, h => by cases h
  | n :: ns, x :: xs, h, hl => by
    show (if n = f then a :: xs else x :: putX f a ns xs) = _
    rw [if_neg (fun z => h (by rw [z]; exact List.mem_cons_self)), putX_new (fun z => h (List.mem_cons_of_mem _ z)) (by simpa using hl)]
    rfl
theorem fSet_end {c f : Str} {S : Sto} {ns : List Str} {xs : List Vl} {x : P} (h : f ∉ ns) (hl : ns.length = xs.length) (hn : ns.length < 1000) : fSet c f (.c S.length) (.p x) (S ++ [.ins c ns xs]) = .ok () (S ++ [.ins c (ns ++ [f]) (xs ++ [.p x])]) := by
  show putC c f S.length (.p x) (S ++ [.ins c ns xs]) = _
  unfold putC
  have e : (S ++ [Cell.ins c ns xs])[S.length]? = some (.ins c ns xs) := by simp
  rw [e]
  dsimp only
  rw [if_pos ⟨rfl, hn⟩, putN_new h, putX_new h hl]
  simp
end Mir
namespace Law
open PySem L2 Mir Pl
def spcP (n : Nat) (order near : List (List Nat)) : P := .obj "Space" ["told", "order", "seen"] [.str (textT n order near), .lst (txts order), .lst (nums (bitsL near))]
section
variable {n : Nat} {order near : List (List Nat)} (h : Spc n order near)
include h
theorem make_ok (S : Sto) : mkO false "Space" m_Space___init__ [.p (.str (textT n order near))] S = .ok (.p (spcP n order near)) S := by
  have hk : (S ++ [Cell.ins "Space" [] []])[S.length]? = some (.ins "Space" [] []) := by simp
  have rs := read_space_ok h (S ++ [Cell.ins "Space" [] []])
  have ei : eIsi isiCs (eVar 1) (eC (.ty "str")) [some (.c S.length), some (.p (.str (textT n order near))), none] (S ++ [Cell.ins "Space" [] []]) = .ok (.p (.bl true)) (S ++ [Cell.ins "Space" [] []]) := rfl
  have e1 : eIfM (tVal (eIsi isiCs (eVar 1) (eC (.ty "str")))) (eFn m_read_space (aCons (eVar 1) aNil)) (eC .non) [some (.c S.length), some (.p (.str (textT n order near))), none] (S ++ [Cell.ins "Space" [] []]) = .ok (.p (.tup [.lst (txts order), .lst (nums (bitsL near))])) (S ++ [Cell.ins "Space" [] []]) := by
    have ea : aCons (eVar 1) aNil [some (.c S.length), some (.p (.str (textT n order near))), none] (S ++ [Cell.ins "Space" [] []]) = .ok [.p (.str (textT n order near))] (S ++ [Cell.ins "Space" [] []]) := rfl
    rw [eIf_eq, tVal_eq, ei, bind_ok, tst_bl, bind_ok]
    dsimp only
    rw [eFn_eq, ea, bind_ok, rs]
  have body : b_Space___init__ [some (.c S.length), some (.p (.str (textT n order near))), none] (S ++ [Cell.ins "Space" [] []]) = .ok (.nx [some (.c S.length), some (.p (.str (textT n order near))), some (.p (.tup [.lst (txts order), .lst (nums (bitsL near))]))]) (S ++ [Cell.ins "Space" ["told", "order", "seen"] [.p (.str (textT n order near)), .p (.lst (txts order)), .p (.lst (nums (bitsL near)))]]) := by
    unfold b_Space___init__
    rw [sSeq_eq, sAsg_eq, e1, go_ok, gNm_eq, nox_ok, go_ok, thn_nx]
    generalize textT n order near = tx
    simp [isN]
    rw [fSet_end (by decide) rfl (by decide)]
    simp
    rw [fSet_end (by decide) rfl (by decide)]
    simp
    rw [fSet_end (by decide) rfl (by decide)]
    simp
  unfold mkO m_Space___init__
  rw [mkF_eq 2 1 _ [.c S.length, .p (.str (textT n order near))] _ rfl]
  show endO false S.length (endF _ (b_Space___init__ [some (.c S.length), some (.p (.str (textT n order near))), none] _)) = _
  rw [body, endF_nx]
  have tk : (S ++ [Cell.ins "Space" ["told", "order", "seen"] [.p (.str (textT n order near)), .p (.lst (txts order)), .p (.lst (nums (bitsL near)))]]).take (S ++ [Cell.ins "Space" [] []]).length = S ++ [Cell.ins "Space" ["told", "order", "seen"] [.p (.str (textT n order near)), .p (.lst (txts order)), .p (.lst (nums (bitsL near)))]] := List.take_of_length_le (by simp)
  rw [tk]
  unfold endO
  dsimp only
  have hk2 : (S ++ [Cell.ins "Space" ["told", "order", "seen"] [.p (.str (textT n order near)), .p (.lst (txts order)), .p (.lst (nums (bitsL near)))]])[S.length]? = some (.ins "Space" ["told", "order", "seen"] [.p (.str (textT n order near)), .p (.lst (txts order)), .p (.lst (nums (bitsL near)))]) := by simp
  have fr : frz (.c S.length) (S ++ [Cell.ins "Space" ["told", "order", "seen"] [.p (.str (textT n order near)), .p (.lst (txts order)), .p (.lst (nums (bitsL near)))]]) = .ok (spcP n order near) ((S ++ [Cell.ins "Space" ["told", "order", "seen"] [.p (.str (textT n order near)), .p (.lst (txts order)), .p (.lst (nums (bitsL near)))]]).set S.length (.fz (spcP n order near))) := by
    unfold frz frzN
    dsimp only
    rw [hk2]
    dsimp only
    show ((Res.ok [P.str (textT n order near), .lst (txts order), .lst (nums (bitsL near))] _).bind _) = _
    rw [bind_ok, hk2]
    dsimp only
    rw [if_pos ⟨rfl, rfl⟩]
    rfl
  rw [fr, bind_ok]
  simp
end
end Law

namespace Law
open PySem L2 Mir Pl
def nearP (near : List (List Nat)) : P := .lst (near.map fun l => P.lst (nums l))
theorem atI_txts {order : List (List Nat)} {i : Nat} (hi : i < order.length) : atI (txts order) (i : Int) = some (.str (order.getD i [])) := by
  refine atN ?_
  unfold txts
  rw [List.getElem?_map, List.getElem?_eq_getElem hi]
  simp [hi]
theorem atI_near {near : List (List Nat)} {i : Nat} (hi : i < near.length) : atI (near.map fun l => P.lst (nums l)) (i : Int) = some (.lst (nums (row near i))) := by
  refine atN ?_
  rw [List.getElem?_map, List.getElem?_eq_getElem hi]
  unfold row
  simp [hi]
section
variable {n : Nat} {order near : List (List Nat)} (h : Spc n order near)
include h
theorem written_ok (S : Sto) : m__law_written [.p (.lst (txts order)), .p (nearP near)] S = .ok (.p (.str (textT n order near))) S := by
  have hle := h.le
  let e0 : Option Vl → En := fun kv => [some (.p (.lst (txts order))), some (.p (nearP near)), some (.c S.length), kv, none]
  have loop := forGo_rng (g := gNm 3) (b := sExpr (eMut isL fApp (eVar 2) (aCons (eBin pAdd (eBin pAdd (eItem (eVar 0) (eVar 3)) (eC (.str [58, 32]))) (eMthT "str" pJoin (eC (.str [32])) (aCons (eLc (itOf (eItem (eVar 1) (eVar 3))) [4] (gNm 4) tsYes (eItem (eVar 0) (eVar 4))) aNil))) aNil)))
    (fun i ρ T => (∃ kv, ρ = e0 kv) ∧ T = S ++ [.lst (txts ((List.range i).map (rowAt order near)))]) n (e0 none) (S ++ [.lst []]) ⟨⟨none, rfl⟩, rfl⟩ ?_
  · obtain ⟨ρ', T, e, ⟨kv, rfl⟩, rfl⟩ := loop
    have ri : itRange1 (eCall pLen (aCons (eVar 0) aNil)) (e0 none) (S ++ [.lst []]) = .ok (rangeP 0 n) (S ++ [.lst []]) := by
      refine itRange1_nat ?_ (by omega)
      rw [eCall1_of (x := .lst (txts order)) rfl (pLen_lst _), strs_length, h.len]
    unfold m__law_written b__law_written
    rw [mkF_eq 2 3 _ [.p (.lst (txts order)), .p (nearP near)] S rfl]
    show endF S.length (sSeq _ _ [some (.p (.lst (txts order))), some (.p (nearP near)), none, none, none] S) = _
    have a1 : sAsg (eLstC aNil) (gNm 2) [some (.p (.lst (txts order))), some (.p (nearP near)), none, none, none] S = .ok (.nx (e0 none)) (S ++ [.lst []]) := by
      simp [e0]
    rw [sSeq_eq, a1, thn_nx, sSeq_eq, sFor_eq, ri, go_ok, e, thn_nx, sRet_eq]
    have hk : (S ++ [Cell.lst (txts ((List.range n).map (rowAt order near)))])[S.length]? = some (.lst (txts ((List.range n).map (rowAt order near)))) := by simp
    have hj : pJoin (.str [10]) [.lst (txts ((List.range n).map (rowAt order near)))] = some (.str (textT n order near)) := by
      refine pJoin_txts ?_
      have h2 := sum_len_le (c := 2600) (l := (List.range n).map (rowAt order near)) fun x hx => by
        obtain ⟨i, hi, rfl⟩ := List.mem_map.mp hx
        have hi := List.mem_range.mp hi
        have a := rowT_len (h.at_ hi).len fun y hy => (h.pk hi y hy).len
        have b := h.pk_len hi
        show (rowT (order.getD i []) (pick order (row near i))).length ≤ 2600
        omega
      rw [List.length_map, List.length_range] at h2 ⊢
      simp only [List.length_cons, List.length_nil]
      omega
    have v2 : eVar 2 (e0 kv) (S ++ [Cell.lst (txts ((List.range n).map (rowAt order near)))]) = .ok (.c S.length) (S ++ [Cell.lst (txts ((List.range n).map (rowAt order near)))]) := rfl
    have em : eMthT "str" pJoin (eC (.str [10])) (aCons (eVar 2) aNil) (e0 kv) (S ++ [Cell.lst (txts ((List.range n).map (rowAt order near)))]) = .ok (.p (.str (textT n order near))) (S ++ [Cell.lst (txts ((List.range n).map (rowAt order near)))]) :=
      ev_mth ev_c (rd_p _ _) rfl (ev_acons v2 ev_anil) (rd_p _ _) (rds_c (rd_lst hk) (rds_nil _)) hj
    rw [em, go_ok, endF_p, take_app]
  · rintro i ρ T hi ⟨⟨kv, rfl⟩, rfl⟩
    have hk : (S ++ [Cell.lst (txts ((List.range i).map (rowAt order near)))])[S.length]? = some (.lst (txts ((List.range i).map (rowAt order near)))) := by simp
    generalize hT : S ++ [Cell.lst (txts ((List.range i).map (rowAt order near)))] = T at hk
    have io : i < order.length := by rw [h.len]; exact hi
    have inr : i < near.length := by rw [h.near.len]; exact hi
    have lc : eLc (itOf (eItem (eVar 1) (eVar 3))) [4] (gNm 4) tsYes (eItem (eVar 0) (eVar 4)) (e0 (some (.p (.int (i : Int))))) T = .ok (.p (.lst (txts (pick order (row near i))))) T := by
      rw [eLc_genm (row near i) (fun (j : Nat) => P.int (j : Int)) (fun j => .str (order.getD j [])) ?_ ?_ ?_]
      · unfold txts pick
        rw [List.map_map]
        rfl
      · have := atI_near inr
        simp [e0, nearP, this]
        skip
      · have := nodup_len n _ (near_nd h.near hi) (h.near.lt i hi)
        omega
      · intro j hj
        have hjn := h.near.lt i hi j hj
        refine ⟨[some (.p (.lst (txts order))), some (.p (nearP near)), some (.c S.length), some (.p (.int (i : Int))), some (.p (.int (j : Int)))], rfl, ?_⟩
        have := atI_txts (order := order) (i := j) (by rw [h.len]; exact hjn)
        rw [eItem_eq, eVar_0, bind_ok]
        show (ixV (nv T (.p (.lst (txts order)))) (.p (.int (j : Int))) T) = _
        rw [nv_p, ixV_p, op2_pp, pIx_lst, this, ofO_some]
    have hp2 := h.pk_len hi
    have hj : pJoin (.str [32]) [.lst (txts (pick order (row near i)))] = some (.str (TL.joinL [32] (pick order (row near i)))) := by
      refine pJoin_txts ?_
      have h2 := sum_len_le (c := 8) (l := pick order (row near i)) fun x hx => (h.pk hi x hx).len
      simp only [List.length_cons, List.length_nil]
      omega
    have jl := joinL_len [32] (pick order (row near i))
    have js := sum_len_le (c := 8) (l := pick order (row near i)) fun x hx => (h.pk hi x hx).len
    simp only [List.length_cons, List.length_nil] at jl
    have nl := (h.at_ hi).len
    have ea := atI_txts (order := order) (i := i) io
    refine ⟨e0 (some (.p (.int (i : Int)))), T, e0 (some (.p (.int (i : Int)))), T.set S.length (.lst (txts ((List.range i).map (rowAt order near)) ++ [.str (rowAt order near i)])), rfl, .inl ?_, ⟨_, rfl⟩, ?_⟩
    · have x1 : eBin pAdd (eBin pAdd (eItem (eVar 0) (eVar 3)) (eC (.str [58, 32]))) (eMthT "str" pJoin (eC (.str [32])) (aCons (eLc (itOf (eItem (eVar 1) (eVar 3))) [4] (gNm 4) tsYes (eItem (eVar 0) (eVar 4))) aNil)) (e0 (some (.p (.int (i : Int))))) T = .ok (.p (.str (rowAt order near i))) T := by
        have y1 : eItem (eVar 0) (eVar 3) (e0 (some (.p (.int (i : Int))))) T = .ok (.p (.str (order.getD i []))) T := by
          simp [e0, ea]
        have y2 : eMthT "str" pJoin (eC (.str [32])) (aCons (eLc (itOf (eItem (eVar 1) (eVar 3))) [4] (gNm 4) tsYes (eItem (eVar 0) (eVar 4))) aNil) (e0 (some (.p (.int (i : Int))))) T = .ok (.p (.str (TL.joinL [32] (pick order (row near i))))) T := by
          rw [eMthT_p, eC_eq, bind_ok, rd_p]
          dsimp only
          rw [tyP_str, if_pos rfl, aCons_eq, lc, bind_ok, aNil_eq, bind_ok, bind_ok]
          simp [hj]
        rw [eBin_eq, eBin_eq, y1, bind_ok, eC_eq, bind_ok, op2_pp, pAdd_str, if_pos (by show (order.getD i []).length + 2 ≤ 100000; omega), ofO_some, bind_ok, y2, bind_ok, op2_pp, pAdd_str, if_pos (by rw [List.length_append]; show (order.getD i []).length + 2 + (TL.joinL [32] (pick order (row near i))).length ≤ 100000; omega), ofO_some]
        unfold rowAt rowT
        rw [List.append_assoc]
      have a1 : aCons (eBin pAdd (eBin pAdd (eItem (eVar 0) (eVar 3)) (eC (.str [58, 32]))) (eMthT "str" pJoin (eC (.str [32])) (aCons (eLc (itOf (eItem (eVar 1) (eVar 3))) [4] (gNm 4) tsYes (eItem (eVar 0) (eVar 4))) aNil))) aNil (e0 (some (.p (.int (i : Int))))) T = .ok [.p (.str (rowAt order near i))] T := by
        rw [aCons_eq, x1, bind_ok, aNil_eq, bind_ok]
      have v2 : eVar 2 (e0 (some (.p (.int (i : Int))))) T = .ok (.c S.length) T := rfl
      rw [sExpr_eq, eMut_eq, v2, bind_ok, isL_lst hk, if_pos rfl, a1, bind_ok, fApp_lst hk (by rw [strs_length, List.length_map, List.length_range]; omega), go_ok]
    · rw [← hT]
      simp [List.range_succ]
end
end Law

namespace Law
open PySem L2 Mir Pl
theorem fld_order (n : Nat) (order near : List (List Nat)) (S : Sto) : fldV "Space" "order" (.p (spcP n order near)) S = .ok (.p (.lst (txts order))) S := by
  unfold fldV spcP
  dsimp only
  rw [if_pos rfl]
  unfold fldOf
  rw [if_neg (by decide)]
  unfold fldOf
  rw [if_pos rfl]
theorem fld_seen (n : Nat) (order near : List (List Nat)) (S : Sto) : fldV "Space" "seen" (.p (spcP n order near)) S = .ok (.p (.lst (nums (bitsL near)))) S := by
  unfold fldV spcP
  dsimp only
  rw [if_pos rfl]
  unfold fldOf
  rw [if_neg (by decide)]
  unfold fldOf
  rw [if_neg (by decide)]
  unfold fldOf
  rw [if_pos rfl]
theorem fld_told (n : Nat) (order near : List (List Nat)) (S : Sto) : fldV "Space" "told" (.p (spcP n order near)) S = .ok (.p (.str (textT n order near))) S := by
  unfold fldV spcP
  dsimp only
  rw [if_pos rfl]
  unfold fldOf
  rw [if_pos rfl]
structure Lot (n : Nat) (l : List Nat) : Prop where
  srt : l.Pairwise (· < ·)
  lt : ∀ e ∈ l, e < n
theorem Lot.nd {n : Nat} {l : List Nat} (h : Lot n l) : l.Nodup := h.srt.imp fun z => Nat.ne_of_lt z
theorem Lot.len {n : Nat} {l : List Nat} (h : Lot n l) : l.length ≤ n := nodup_len n l h.nd h.lt
theorem Lot.bits {n : Nat} {l : List Nat} (h : Lot n l) : bitsN l < 2 ^ n := bits_lt h.nd h.lt
theorem lot_mem (n B : Nat) : Lot n (mem_ n B) := ⟨(range_sorted n).filter _, fun e he => List.mem_range.mp (List.mem_filter.mp he).1⟩
theorem lot_filter (n : Nat) (p : Nat → Bool) : Lot n ((List.range n).filter p) := ⟨(range_sorted n).filter _, fun e he => List.mem_range.mp (List.mem_filter.mp he).1⟩
abbrev setP (order : List (List Nat)) (l : List Nat) : P := .tup (txts (pick order l))
section
variable {n : Nat} {order near : List (List Nat)} (h : Spc n order near)
include h
theorem names_of_ok {B : Nat} (hB : B < 2 ^ n) (S : Sto) : m_names_of [.p (spcP n order near), .p (.int (B : Int))] S = .ok (.p (setP order (mem_ n B))) S := by
  have hle := h.le
  have e1 : eLc (itOf (eFn m_indexes_of (aCons (eVar 1) aNil))) [2] (gNm 2) tsYes (eItem (eFld "Space" "order" (eVar 0)) (eVar 2)) [some (.p (spcP n order near)), some (.p (.int (B : Int))), none] S = .ok (.p (.lst (txts (pick order (mem_ n B))))) S := by
    rw [eLc_genm (mem_ n B) (fun (j : Nat) => P.int (j : Int)) (fun j => .str (order.getD j [])) ?_ ?_ ?_]
    · unfold txts pick
      rw [List.map_map]
      rfl
    · have ea : aCons (eVar 1) aNil [some (.p (spcP n order near)), some (.p (.int (B : Int))), none] S = .ok [.p (.int (B : Int))] S := rfl
      rw [itOf_eq, eFn_eq, ea, bind_ok, indexes_of_ok hB (by omega) S, bind_ok, frz_p, bind_ok, itemsP_lst]
      skip
    · have := (lot_mem n B).len
      omega
    · intro j hj
      have hjn := (lot_mem n B).lt j hj
      refine ⟨[some (.p (spcP n order near)), some (.p (.int (B : Int))), some (.p (.int (j : Int)))], rfl, ?_⟩
      have ea := atI_txts (order := order) (i := j) (by rw [h.len]; exact hjn)
      rw [eItem_eq, eFld_eq, eVar_0, bind_ok, nv_p, fld_order, bind_ok]
      show ixV (nv S (.p (.lst (txts order)))) (.p (.int (j : Int))) S = _
      rw [nv_p, ixV_p, op2_pp, pIx_lst, ea, ofO_some]
  unfold m_names_of b_names_of
  rw [mkF_eq 2 1 _ [.p (spcP n order near), .p (.int (B : Int))] S rfl]
  show endF S.length (sRet (eCall pTuple (aCons _ aNil)) [some (.p (spcP n order near)), some (.p (.int (B : Int))), none] S) = _
  rw [sRet_eq, eCall1_of e1 (pTuple_lst _), go_ok, endF_p, take_self]
  skip
theorem check_set_ok {l : List Nat} (hl : Lot n l) (S : Sto) : m_check_set [.p (spcP n order near), .p (setP order l)] S = .ok (.p .non) S := by
  have hle := h.le
  have hll := hl.len
  have e1 : eLc (itOf (eVar 1)) [2] (gNm 2) tsYes (eFn m_is_name (aCons (eVar 2) aNil)) [some (.p (spcP n order near)), some (.p (setP order l)), none] S = .ok (.p (.lst ((l.map fun _ => true).map P.bl))) S := by
    rw [eLc_genm l (fun j => P.str (order.getD j [])) (fun _ => .bl true) ?_ ?_ ?_]
    · rw [List.map_map]; rfl
    · unfold setP txts pick
      rw [List.map_map]
      rfl
    · omega
    · intro j hj
      refine ⟨[some (.p (spcP n order near)), some (.p (setP order l)), some (.p (.str (order.getD j [])))], rfl, ?_⟩
      have ea : aCons (eVar 2) aNil [some (.p (spcP n order near)), some (.p (setP order l)), some (.p (.str (order.getD j [])))] S = .ok [.p (.str (order.getD j []))] S := rfl
      rw [eFn_eq, ea, bind_ok]
      exact (h.at_ (hl.lt j hj)).is S
  have is : m_is_set [.p (spcP n order near), .p (setP order l)] S = .ok (.p (.bl true)) S := by
    have t1 : tNotM (tVal (eIsi isiCs (eVar 1) (eC (.ty "tuple")))) [some (.p (spcP n order near)), some (.p (setP order l)), none] S = .ok false S := rfl
    have t2 : tNotM (tVal (eCall pAll (aCons (eLc (itOf (eVar 1)) [2] (gNm 2) tsYes (eFn m_is_name (aCons (eVar 2) aNil))) aNil))) [some (.p (spcP n order near)), some (.p (setP order l)), none] S = .ok false S := by
      have t3 : (l.map fun _ => true).all id = true := by simp
      rw [tNot_eq, tVal_eq, eCall1_of e1 (by rw [pAll_bls, t3]), bind_ok, tst_bl, bind_ok]
      rfl
    have ea : aCons (eFld "Space" "order" (eVar 0)) (aCons (eVar 1) aNil) [some (.p (spcP n order near)), some (.p (setP order l)), none] S = .ok [.p (.lst (txts order)), .p (setP order l)] S := by
      rw [aCons_eq, eFld_eq, eVar_0, bind_ok, nv_p, fld_order, bind_ok]
      rfl
    have io := is_ordered_ok (b := false) h.nd (fun j hj => by rw [h.len]; exact hl.lt j hj) hl.srt (by omega) S
    unfold m_is_set b_is_set
    rw [mkF_eq 2 1 _ [.p (spcP n order near), .p (setP order l)] S rfl]
    show endF S.length (sSeq _ _ [some (.p (spcP n order near)), some (.p (setP order l)), none] S) = _
    rw [sSeq_eq, sIf_eq, tOr_eq, t1, bind_ok]
    dsimp only
    rw [t2, go_ok]
    dsimp only
    rw [sPass_eq, thn_nx, sRet_eq, eFn_eq, ea, bind_ok]
    have io' : m_is_ordered [.p (.lst (txts order)), .p (setP order l)] S = .ok (.p (.bl true)) S := io
    rw [io', go_ok, endF_p, take_self]
  have ea : aCons (eVar 0) (aCons (eVar 1) aNil) [some (.p (spcP n order near)), some (.p (setP order l))] S = .ok [.p (spcP n order near), .p (setP order l)] S := rfl
  unfold m_check_set b_check_set
  rw [mkF_eq 2 0 _ [.p (spcP n order near), .p (setP order l)] S rfl]
  show endF S.length (sIf _ _ _ [some (.p (spcP n order near)), some (.p (setP order l))] S) = _
  rw [sIf_eq, tNot_eq, tVal_eq, eFn_eq, ea, bind_ok, is, bind_ok, tst_bl, bind_ok, go_ok]
  show endF S.length (.ok (.nx _) S) = _
  rw [endF_nx, take_self]
theorem bits_set_ok {l : List Nat} (hl : Lot n l) (S : Sto) : m_bits_of [.p (.lst (txts order)), .p (setP order l)] S = .ok (.p (.int ((bitsN l : Nat) : Int))) S := by
  have hle := h.le
  have hll := hl.len
  exact bits_of_ok (b := false) h.nd (fun j hj => by rw [h.len]; exact hl.lt j hj) (by omega) (by rw [h.len]; omega) S
end
end Law

namespace Pl
theorem and_ne {l m : List Nat} (hl : l.Nodup) (hm : m.Nodup) : decide (bitsN l &&& bitsN m ≠ 0) = l.any fun e => m.contains e := by
  rw [Bool.eq_iff_iff, decide_eq_true_eq, List.any_eq_true]
  constructor
  · intro h
    obtain ⟨i, hi⟩ := Nat.exists_testBit_of_ne_zero h
    rw [Nat.testBit_and, bits_test hl, bits_test hm, Bool.and_eq_true] at hi
    exact ⟨i, by simpa using hi.1, hi.2⟩
  · rintro ⟨e, he, h2⟩ z
    have := congrArg (fun x => x.testBit e) z
    rw [Nat.testBit_and, bits_test hl, bits_test hm, Nat.zero_testBit, h2] at this
    simp [he] at this
theorem minus_eq {l m : List Nat} (hl : l.Nodup) (hm : m.Nodup) : decide (bitsN l - (bitsN l &&& bitsN m) = 0) = l.all fun e => m.contains e := by
  rw [Bool.eq_iff_iff, decide_eq_true_eq, List.all_eq_true]
  constructor
  · intro h e he
    have := congrArg (fun x => x.testBit e) h
    rw [test_minus, bits_test hl, bits_test hm, Nat.zero_testBit] at this
    have h2 : l.contains e = true := by simpa using he
    rw [h2, Bool.true_and] at this
    simpa using this
  · intro h
    apply Nat.eq_of_testBit_eq
    intro i
    rw [test_minus, bits_test hl, bits_test hm, Nat.zero_testBit]
    cases q : l.contains i with
    | false => rfl
    | true =>
      have := h i (by simpa using q)
      rw [this]
      rfl
def closL (n : Nat) (near : List (List Nat)) (l : List Nat) : List Nat := (List.range n).filter fun i => (row near i).any fun e => l.contains e
def insL (n : Nat) (near : List (List Nat)) (l : List Nat) : List Nat := (List.range n).filter fun i => (row near i).all fun e => l.contains e
def othL (n : Nat) (l : List Nat) : List Nat := (List.range n).filter fun i => !l.contains i
end Pl
namespace Law
open PySem L2 Mir Pl
section
variable {n : Nat} {order near : List (List Nat)} (h : Spc n order near)
include h
theorem clos_bits {l : List Nat} (hl : Lot n l) : ((List.range n).filter fun i => decide (bitsN (row near i) &&& bitsN l ≠ 0)) = closL n near l := by
  unfold closL
  apply List.filter_congr
  intro i hi
  exact and_ne (near_nd h.near (List.mem_range.mp hi)) hl.nd
theorem ins_bits {l : List Nat} (hl : Lot n l) : ((List.range n).filter fun i => decide (bitsN (row near i) - (bitsN (row near i) &&& bitsN l) = 0)) = insL n near l := by
  unfold insL
  apply List.filter_congr
  intro i hi
  exact minus_eq (near_nd h.near (List.mem_range.mp hi)) hl.nd
theorem clos_lot (l : List Nat) : Lot n (closL n near l) := lot_filter n _
theorem ins_lot (l : List Nat) : Lot n (insL n near l) := lot_filter n _
theorem closure_ok {l : List Nat} (hl : Lot n l) (S : Sto) : m_Space_closure [.p (spcP n order near), .p (setP order l)] S = .ok (.p (setP order (closL n near l))) S := by
  have hle := h.le
  have ea : aCons (eVar 0) (aCons (eVar 1) aNil) [some (.p (spcP n order near)), some (.p (setP order l))] S = .ok [.p (spcP n order near), .p (setP order l)] S := rfl
  have eb : aCons (eFld "Space" "order" (eVar 0)) (aCons (eVar 1) aNil) [some (.p (spcP n order near)), some (.p (setP order l))] S = .ok [.p (.lst (txts order)), .p (setP order l)] S := by
    rw [aCons_eq, eFld_eq, eVar_0, bind_ok, nv_p, fld_order, bind_ok]
    rfl
  have ec : aCons (eFld "Space" "seen" (eVar 0)) (aCons (eFn m_bits_of (aCons (eFld "Space" "order" (eVar 0)) (aCons (eVar 1) aNil))) aNil) [some (.p (spcP n order near)), some (.p (setP order l))] S = .ok [.p (.lst (nums (bitsL near))), .p (.int ((bitsN l : Nat) : Int))] S := by
    rw [aCons_eq, eFld_eq, eVar_0, bind_ok, nv_p, fld_seen, bind_ok, aCons_eq, eFn_eq, eb, bind_ok, bits_set_ok h hl, bind_ok, aNil_eq, bind_ok, bind_ok]
  have co := closure_of_ok (B := bitsN l) h.near.len (by omega) S
  rw [clos_bits h hl] at co
  have no := names_of_ok h (clos_lot h l).bits S
  rw [mem_bits (clos_lot h l).srt (clos_lot h l).lt] at no
  have ed : aCons (eVar 0) (aCons (eFn m_closure_of (aCons (eFld "Space" "seen" (eVar 0)) (aCons (eFn m_bits_of (aCons (eFld "Space" "order" (eVar 0)) (aCons (eVar 1) aNil))) aNil))) aNil) [some (.p (spcP n order near)), some (.p (setP order l))] S = .ok [.p (spcP n order near), .p (.int ((bitsN (closL n near l) : Nat) : Int))] S := by
    rw [aCons_eq, eVar_0, bind_ok, aCons_eq, eFn_eq, ec, bind_ok, co, bind_ok, aNil_eq, bind_ok, bind_ok]
  unfold m_Space_closure b_Space_closure
  rw [mkF_eq 2 0 _ [.p (spcP n order near), .p (setP order l)] S rfl]
  show endF S.length (sSeq _ _ [some (.p (spcP n order near)), some (.p (setP order l))] S) = _
  rw [sSeq_eq, sExpr_eq, eFn_eq, ea, bind_ok, check_set_ok h hl, go_ok, thn_nx, sRet_eq, eFn_eq, ed, bind_ok, no, go_ok, endF_p, take_self]
theorem inside_ok {l : List Nat} (hl : Lot n l) (S : Sto) : m_Space_inside [.p (spcP n order near), .p (setP order l)] S = .ok (.p (setP order (insL n near l))) S := by
  have hle := h.le
  have ea : aCons (eVar 0) (aCons (eVar 1) aNil) [some (.p (spcP n order near)), some (.p (setP order l))] S = .ok [.p (spcP n order near), .p (setP order l)] S := rfl
  have eb : aCons (eFld "Space" "order" (eVar 0)) (aCons (eVar 1) aNil) [some (.p (spcP n order near)), some (.p (setP order l))] S = .ok [.p (.lst (txts order)), .p (setP order l)] S := by
    rw [aCons_eq, eFld_eq, eVar_0, bind_ok, nv_p, fld_order, bind_ok]
    rfl
  have ec : aCons (eFld "Space" "seen" (eVar 0)) (aCons (eFn m_bits_of (aCons (eFld "Space" "order" (eVar 0)) (aCons (eVar 1) aNil))) aNil) [some (.p (spcP n order near)), some (.p (setP order l))] S = .ok [.p (.lst (nums (bitsL near))), .p (.int ((bitsN l : Nat) : Int))] S := by
    rw [aCons_eq, eFld_eq, eVar_0, bind_ok, nv_p, fld_seen, bind_ok, aCons_eq, eFn_eq, eb, bind_ok, bits_set_ok h hl, bind_ok, aNil_eq, bind_ok, bind_ok]
  have co := inside_of_ok (B := bitsN l) h.near.len (by omega) S
  rw [ins_bits h hl] at co
  have no := names_of_ok h (ins_lot h l).bits S
  rw [mem_bits (ins_lot h l).srt (ins_lot h l).lt] at no
  have ed : aCons (eVar 0) (aCons (eFn m_inside_of (aCons (eFld "Space" "seen" (eVar 0)) (aCons (eFn m_bits_of (aCons (eFld "Space" "order" (eVar 0)) (aCons (eVar 1) aNil))) aNil))) aNil) [some (.p (spcP n order near)), some (.p (setP order l))] S = .ok [.p (spcP n order near), .p (.int ((bitsN (insL n near l) : Nat) : Int))] S := by
    rw [aCons_eq, eVar_0, bind_ok, aCons_eq, eFn_eq, ec, bind_ok, co, bind_ok, aNil_eq, bind_ok, bind_ok]
  unfold m_Space_inside b_Space_inside
  rw [mkF_eq 2 0 _ [.p (spcP n order near), .p (setP order l)] S rfl]
  show endF S.length (sSeq _ _ [some (.p (spcP n order near)), some (.p (setP order l))] S) = _
  rw [sSeq_eq, sExpr_eq, eFn_eq, ea, bind_ok, check_set_ok h hl, go_ok, thn_nx, sRet_eq, eFn_eq, ed, bind_ok, no, go_ok, endF_p, take_self]
end
end Law

namespace Pl
section
variable {n : Nat} {near : List (List Nat)} {l m : List Nat} {k : Nat}
theorem mem_clos : k ∈ closL n near l ↔ k < n ∧ ∃ e ∈ row near k, e ∈ l := by
  unfold closL
  simp
theorem mem_ins : k ∈ insL n near l ↔ k < n ∧ ∀ e ∈ row near k, e ∈ l := by
  unfold insL
  simp
theorem mem_oth : k ∈ othL n l ↔ k < n ∧ k ∉ l := by
  unfold othL
  simp
open Law in
theorem lot_ext (hl : Lot n l) (hm : Lot n m) (h : ∀ i, i < n → (i ∈ l ↔ i ∈ m)) : l = m :=
  sorted_eq hl.srt hm.srt fun e => ⟨fun z => (h e (hl.lt e z)).mp z, fun z => (h e (hm.lt e z)).mpr z⟩
open Law
theorem closLot : Lot n (closL n near l) := lot_filter n _
theorem insLot : Lot n (insL n near l) := lot_filter n _
theorem othLot : Lot n (othL n l) := lot_filter n _
variable (h : Near n near)
include h
omit h in
theorem oth_oth (hl : Lot n l) : othL n (othL n l) = l := lot_ext othLot hl fun i hi => by
  rw [mem_oth, mem_oth]
  constructor
  · rintro ⟨_, z⟩
    exact Classical.byContradiction fun q => z ⟨hi, q⟩
  · exact fun z => ⟨hi, fun q => q.2 z⟩
theorem clos_clos : closL n near (closL n near l) = closL n near l := lot_ext closLot closLot fun i hi => by
  rw [mem_clos, mem_clos]
  constructor
  · rintro ⟨_, e, he, hc⟩
    obtain ⟨_, f, hf, hl⟩ := mem_clos.mp hc
    exact ⟨hi, f, h.trs i hi e he f hf, hl⟩
  · rintro ⟨_, e, he, hl⟩
    exact ⟨hi, i, h.rfl_ i hi, mem_clos.mpr ⟨hi, e, he, hl⟩⟩
theorem ins_ins : insL n near (insL n near l) = insL n near l := lot_ext insLot insLot fun i hi => by
  rw [mem_ins, mem_ins]
  constructor
  · rintro ⟨_, z⟩
    exact ⟨hi, fun e he => (mem_ins.mp (z e he)).2 e (h.rfl_ e (h.lt i hi e he))⟩
  · rintro ⟨_, z⟩
    exact ⟨hi, fun e he => mem_ins.mpr ⟨h.lt i hi e he, fun f hf => z f (h.trs i hi e he f hf)⟩⟩
theorem sub_clos (hl : Lot n l) : ∀ e ∈ l, e ∈ closL n near l := fun e he => mem_clos.mpr ⟨hl.lt e he, e, h.rfl_ e (hl.lt e he), he⟩
theorem ins_sub : ∀ e ∈ insL n near l, e ∈ l := fun e he => (mem_ins.mp he).2 e (h.rfl_ e (mem_ins.mp he).1)
omit h in
theorem clos_nil : closL n near [] = [] := by
  unfold closL
  rw [List.filter_eq_nil_iff]
  intro a _
  simp
end
end Pl

local macro_rules | `(tactic| exists cell_run) => `(tactic| first | with_reducible assumption | with_reducible exact Mir.cell0 | with_reducible exact Mir.cell1 | with_reducible exact Mir.cell2)
local macro_rules | `(tactic| exists sd_run) => `(tactic| first | assumption | omega | decide | solve_by_elim (transparency := .reducible) only [*] | (focus have := List.mem_range.mp (by assumption); omega) | (focus simp; done) | (focus simp; omega))
local macro_rules | `(tactic| exists op_run) => `(tactic| first
  | with_reducible assumption
  | with_reducible exact Mir.op_addN1 | with_reducible exact Mir.op_add1N | with_reducible exact Mir.op_addN | with_reducible exact Mir.op_add
  | (with_reducible apply Mir.op_addS) <;> exists sd_run | (with_reducible apply Mir.op_addLm) <;> exists sd_run | (with_reducible apply Mir.op_addTm) <;> exists sd_run | (with_reducible apply Mir.op_addL) <;> exists sd_run | (with_reducible apply Mir.op_addT) <;> exists sd_run
  | ((with_reducible apply Mir.op_sub1) <;> exists sq_run) | ((with_reducible apply Mir.op_subN) <;> exists sq_run) | ((with_reducible apply Mir.op_modN) <;> exists sq_run) | with_reducible exact Mir.op_int | with_reducible exact Mir.op_neg1 | with_reducible exact Mir.op_neg | with_reducible exact Mir.op_mul2 | with_reducible exact Mir.op_init | with_reducible exact Mir.op_eqL1
  | with_reducible exact Mir.op_band | with_reducible exact Mir.op_bandnot | with_reducible exact Mir.op_and1 | with_reducible exact Mir.op_pI | with_reducible exact Mir.op_inv
  | (with_reducible apply Mir.op_shl) <;> exists sd_run | with_reducible exact Mir.op_shr
  | with_reducible exact Mir.op_eqB | with_reducible exact Mir.op_neB | with_reducible exact Mir.op_niB | with_reducible exact Mir.op_is | with_reducible exact Mir.op_isNot
  | with_reducible exact Mir.op_eqB1 | with_reducible exact Mir.op_eqB0 | with_reducible exact Mir.op_eqN | with_reducible exact Mir.op_neN | with_reducible exact Mir.op_eqN0 | with_reducible exact Mir.op_neN0 | (with_reducible apply Mir.op_eqX) <;> exists dat_run | (with_reducible apply Mir.op_neX) <;> exists dat_run | ((with_reducible apply Mir.eqc_t); exact rfl) | ((with_reducible apply Mir.eqc_f); exact rfl) | ((with_reducible apply Mir.nec_t); exact rfl) | ((with_reducible apply Mir.nec_f); exact rfl) | with_reducible exact Mir.op_eqI | with_reducible exact Mir.op_neI
  | with_reducible exact Mir.op_ltN | with_reducible exact Mir.op_leN | with_reducible exact Mir.op_gtN | with_reducible exact Mir.op_geN | with_reducible exact Mir.op_pIB
  | (with_reducible apply Mir.op_neL0) <;> exists sd_run | (with_reducible apply Mir.op_eqL0) <;> exists sd_run | (with_reducible apply Mir.op_neT0) <;> exists sd_run | (with_reducible apply Mir.op_eqT0) <;> exists sd_run
  | ((with_reducible apply Mir.op_reprL) <;> exists dat_run)
  | (with_reducible apply Mir.op_eqX) <;> exists dat_run | (with_reducible apply Mir.op_neX) <;> exists dat_run
  | ((with_reducible apply Mir.eqc_t); exact rfl) | ((with_reducible apply Mir.eqc_f); exact rfl) | ((with_reducible apply Mir.nec_t); exact rfl) | ((with_reducible apply Mir.nec_f); exact rfl)
  | (with_reducible apply Mir.op_eqS) <;> exists sd_run | (with_reducible apply Mir.op_neS) <;> exists sd_run
  | (with_reducible apply Mir.op_eqTS) <;> exists sd_run | (with_reducible apply Mir.op_neTS) <;> exists sd_run
  | with_reducible exact Mir.op_inSL' | with_reducible exact Mir.op_inST' | with_reducible exact Mir.op_inNL' | with_reducible exact Mir.op_niSL' | with_reducible exact Mir.op_niST' | with_reducible exact Mir.op_niNL'
  | with_reducible exact Mir.op_inSL | with_reducible exact Mir.op_inST | with_reducible exact Mir.op_inNL | with_reducible exact Mir.op_niSL | with_reducible exact Mir.op_niST | with_reducible exact Mir.op_niNL
  | ((with_reducible apply Mir.inc_t); exact rfl) | ((with_reducible apply Mir.inc_f); exact rfl) | ((with_reducible apply Mir.nic_t); exact rfl) | ((with_reducible apply Mir.nic_f); exact rfl)
  | with_reducible exact Mir.op_lenLm | with_reducible exact Mir.op_lenTm | with_reducible exact Mir.op_lenL | with_reducible exact Mir.op_lenT | (with_reducible apply Mir.op_lenS) <;> exists sd_run
  | with_reducible exact Mir.op_tupL | with_reducible exact Mir.op_tupT | with_reducible exact Mir.op_lstL | with_reducible exact Mir.op_lstT
  | with_reducible exact Mir.op_sum | with_reducible exact Mir.op_all | with_reducible exact Mir.op_all2 | with_reducible exact Mir.op_any
  | with_reducible exact Mir.ix_l0 | with_reducible exact Mir.ix_l1 | with_reducible exact Mir.ix_l2 | with_reducible exact Mir.ix_l3 | with_reducible exact Mir.ix_l4 | with_reducible exact Mir.ix_l5 | with_reducible exact Mir.ix_t0 | with_reducible exact Mir.ix_t1 | with_reducible exact Mir.ix_t2 | with_reducible exact Mir.ix_t3
  | (with_reducible apply Mir.ix_ls) <;> exists sd_run | (with_reducible apply Mir.ix_ln) <;> exists sd_run | (with_reducible apply Mir.ix_ts) <;> exists sd_run | (with_reducible apply Mir.ix_lm) <;> exists sd_run
  | with_reducible assumption)
local macro_rules | `(tactic| exists call_run) => `(tactic| first | with_reducible assumption | (apply_assumption (transparency := .reducible) only [*] <;> first | with_reducible assumption | omega))
local macro_rules | `(tactic| exists rd_run) => `(tactic| first | with_reducible exact Mir.rd_p _ _ | with_reducible exact Mir.rds_nil _ | (with_reducible apply Mir.rds_c) <;> exists rd_run | exact Mir.rd_lst (by exists cell_run) | exact Mir.rd_fz (by exists cell_run))
local macro_rules | `(tactic| exists ev_run) => `(tactic| first
  | with_reducible exact Mir.ev_c
  | ((with_reducible apply Mir.ev_var); exact rfl)
  | with_reducible exact Mir.ev_anil
  | (with_reducible apply Mir.ev_acons) <;> exists ev_run
  | ((with_reducible apply Mir.ev_bin); exists ev_run; exists ev_run; exists rd_run; exists rd_run; exists op_run)
  | ((with_reducible apply Mir.ev_un); exists ev_run; exists rd_run; exists op_run)
  | ((with_reducible apply Mir.ev_item); exists ev_run; exists ev_run; exists ix_run)
  | ((with_reducible apply Mir.ev_call); exists ev_run; exists rd_run; exists op_run)
  | ((with_reducible apply Mir.ev_mth); exists ev_run; exists rd_run; exact rfl; exists ev_run; exists rd_run; exists rd_run; exists op_run)
  | ((with_reducible apply Mir.ev_fn); exists ev_run; exists call_run)
  | ((with_reducible apply Mir.ev_fnK); exists ev_run; exists ev_run; exact rfl; exact rfl; exists perm_run; exists call_run)
  | ((with_reducible apply Mir.ev_meth); exists ev_run; kernel_rfl; exists ev_run; exists call_run)
  | ((with_reducible apply Mir.ev_methK); exists ev_run; kernel_rfl; exists ev_run; exists ev_run; exact rfl; exact rfl; exists perm_run; exists call_run)
  | ((with_reducible apply Mir.ev_make); exists ev_run; exists call_run)
  | ((with_reducible apply Mir.ev_fld); exists ev_run; exists fld_run)
  | ((with_reducible apply Mir.ev_prop); exists ev_run; kernel_rfl; exists call_run)
  | ((with_reducible apply Mir.ev_tval); exists ev_run)
  | ((with_reducible apply Mir.ev_tand) <;> exists ev_run)
  | ((with_reducible apply Mir.ev_tor) <;> exists ev_run)
  | ((with_reducible apply Mir.ev_tnot); exists ev_run; exists not_run)
  | ((with_reducible apply Mir.ev_eand) <;> exists ev_run)
  | ((with_reducible apply Mir.ev_eor) <;> exists ev_run)
  | ((with_reducible apply Mir.ev_enot); exists ev_run; exists not_run)
  | ((with_reducible apply Mir.ev_if) <;> exists ev_run)
  | with_reducible exact Mir.andK_f | ((with_reducible apply Mir.andK_t); exists ev_run) | ((with_reducible apply Mir.andK_s); intro _; exists ev_run)
  | with_reducible exact Mir.orK_t | ((with_reducible apply Mir.orK_f); exists ev_run) | ((with_reducible apply Mir.orK_s); intro _; exists ev_run)
  | with_reducible exact Mir.eandK_f | ((with_reducible apply Mir.eandK_t); exists ev_run) | ((with_reducible apply Mir.eandK_s); intro _; exists ev_run)
  | with_reducible exact Mir.eorK_t | ((with_reducible apply Mir.eorK_f); exists ev_run) | ((with_reducible apply Mir.eorK_s); intro _; exists ev_run)
  | ((with_reducible apply Mir.ifK_t); exists ev_run) | ((with_reducible apply Mir.ifK_f); exists ev_run)
  | ((with_reducible apply Mir.ifK_yes); (with_reducible assumption); exists ev_run) | ((with_reducible apply Mir.ifK_no); (with_reducible assumption); exists ev_run)
  | ((with_reducible apply Mir.ifK_n) <;> (intro _; exists ev_run))
  | ((with_reducible apply Mir.ifK_i) <;> (intro _; exists ev_run))
  | ((with_reducible apply Mir.ifK_s) <;> (intro _; exists ev_run))
  | ((with_reducible apply Mir.ev_isN); exists ev_run; exact rfl)
  | ((with_reducible apply Mir.ev_notN); exists ev_run; exact rfl)
  | ((with_reducible apply Mir.ev_sl); exists ev_run; exists ev_run; exists ev_run; exists rd_run; exists op_run)
  | with_reducible exact Mir.ev_ono | ((with_reducible apply Mir.ev_oyes); exists ev_run)
  | ((with_reducible apply Mir.ev_tup); exists ev_run; exists fz_run; exists sd_run)
  | ((with_reducible apply Mir.ev_lst); exists ev_run; exists fz_run; exists sd_run)
  | ((with_reducible apply Mir.ev_lstC); exists ev_run; exists fz_run; exists sd_run)
  | ((with_reducible apply Mir.ev_itOf); exists ev_run; exists fz_run; exact rfl)
  | with_reducible exact Mir.rng_1 | with_reducible exact Mir.rng_2 | with_reducible exact Mir.rng_3 | with_reducible exact Mir.rng_4 | with_reducible exact Mir.rng_5 | with_reducible exact Mir.rng_6 | with_reducible exact Mir.rng_8
  | ((with_reducible apply Mir.ev_range1); exists ev_run; exists sd_run)
  | ((with_reducible apply Mir.ev_enumN); exists ev_run)
  | ((with_reducible apply Mir.ev_enumS); exists ev_run)
  | ((with_reducible apply Mir.ev_zip) <;> exists ev_run)
  | ((with_reducible apply Mir.ev_lcm); exists ev_run; exists sd_run; exists wipe_run; (intro _ _; exists ev_run); intro _ _; exists ev_run)
  | ((with_reducible apply Mir.ev_lc); exists ev_run; exists sd_run; exists wipe_run; (intro _ _; exists ev_run); (intro _ _; exists ev_run); intro _ _ _; exists ev_run)
  | ((with_reducible apply Mir.ev_lcx); exists ev_run; exists sd_run; exists wipe_run; exists lcx_run)
  | ((with_reducible apply Mir.ev_lc2); exists ev_run; exists sd_run; exists wipe_run; (intro _ _; exists ev_run); (intro _ _; exists ev_run); (intro _ _; exists sd_run); (intro _ _; exists wipe_run); (intro _ _ _ _; exists ev_run); intro _ _ _ _; exists ev_run)
  | ((with_reducible apply Mir.ev_rgL); exists ev_run; exists sd_run)
  | ((with_reducible apply Mir.ev_forx); exists ev_run; exists forx_run)
  | ((with_reducible apply Mir.ev_gnm); exists wipe_run)
  | ((with_reducible apply Mir.ev_gtp); exact rfl; exists wipe_run; exists ev_run)
  | with_reducible exact Mir.ev_gnl
  | ((with_reducible apply Mir.ev_gcn) <;> exists ev_run)
  | with_reducible exact Mir.ev_pass
  | ((with_reducible apply Mir.ev_expr); exists ev_run)
  | ((with_reducible apply Mir.ev_ret); exists ev_run)
  | with_reducible exact Mir.ev_retN
  | ((with_reducible apply Mir.ev_seq) <;> exists ev_run)
  | ((with_reducible apply Mir.thn_n); exists ev_run) | with_reducible exact Mir.thn_r
  | ((with_reducible apply Mir.ev_asg) <;> exists ev_run)
  | ((with_reducible apply Mir.ev_par); exists ev_run; exists wipe_run)
  | ((with_reducible apply Mir.ev_par3); exists ev_run; exists wipe_run)
  | ((with_reducible apply Mir.ev_parG); exists ev_run; exact rfl; decide; exists ev_run)
  | ((with_reducible apply Mir.ev_sif) <;> exists ev_run)
  | ((with_reducible apply Mir.ev_isi); exists ev_run; exists ev_run; exact rfl; exists isi_run))
local macro_rules | `(tactic| exists ix_run) => `(tactic| first
  | ((with_reducible apply Mir.ixv_p); exists op_run)
  | ((with_reducible apply Mir.ixv_l); exists cell_run; exists at_run) | ((with_reducible apply Mir.ixv_v); exists cell_run; exists at_run) | ((with_reducible apply Mir.ixv_f); exists cell_run; exists op_run))
local macro_rules | `(tactic| exists at_run) => `(tactic| first | with_reducible exact Mir.atI_0 _ _ | with_reducible exact Mir.atI_1 _ _ _ | with_reducible exact Mir.atI_2 _ _ _ _ | (with_reducible apply Mir.at_ms) <;> exists sd_run | (with_reducible apply Mir.at_mn) <;> exists sd_run | (with_reducible apply Mir.at_m0) <;> exists sd_run | with_reducible assumption)
local macro_rules | `(tactic| exists fz_run) => `(tactic| first | with_reducible exact Mir.fr_p | with_reducible exact Mir.frzs_z | (with_reducible apply Mir.frzs_s) <;> exists fz_run | exact Mir.frz_fz (by exists cell_run) | exact Mir.frz_lst (by exists cell_run))
local macro_rules | `(tactic| exists wipe_run) => `(tactic| first | (focus dsimp only [Mir.wipeE, List.set, List.map]; done) | (focus dsimp only [Mir.wipeE, List.set, List.map]; with_reducible exact rfl) | with_reducible exact rfl)
local macro_rules | `(tactic| exists perm_run) => `(tactic| first | (focus simp only [Mir.permL, List.map, List.cons_append, List.nil_append, List.getD_cons_zero, List.getD_cons_succ]; done) | (focus simp only [Mir.permL, List.map, List.cons_append, List.nil_append, List.getD_cons_zero, List.getD_cons_succ]; with_reducible exact rfl))
local macro_rules | `(tactic| exists fld_run) => `(tactic| first | with_reducible assumption | apply_assumption (transparency := .reducible) only [*])
local macro_rules | `(tactic| exists def_run) => `(tactic| ((with_reducible apply Mir.ev_mkF); exact rfl; (first | (focus dsimp only [List.map, List.replicate, List.cons_append, List.nil_append]; done) | (focus dsimp only [List.map, List.replicate, List.cons_append, List.nil_append]; with_reducible exact rfl)); exists ev_run; exists end_run))
local macro_rules | `(tactic| exists end_run) => `(tactic| first | with_reducible exact Mir.end_self | with_reducible exact Mir.end_nx | with_reducible exact Mir.end_app | with_reducible exact Mir.end_nxa)
local macro_rules | `(tactic| exists fun_run) => `(tactic| (apply Eq.trans; exists def_run; first | with_reducible exact rfl | skip))
local macro_rules | `(tactic| exists lcx_run) => `(tactic| first | with_reducible exact Mir.lcx_nil | ((with_reducible apply Mir.lcx_yes); exists ev_run; exists ev_run; exists fz_run; exists lcx_run) | ((with_reducible apply Mir.lcx_s); exists ev_run; exists ev_run; (intro _; exists ev_run); exists lcx_run))
local macro_rules | `(tactic| exists dat_run) => `(tactic| first | with_reducible assumption | exact rfl)
local macro_rules | `(tactic| exists not_run) => `(tactic| first | with_reducible exact Bool.not_true | with_reducible exact Bool.not_false | with_reducible exact rfl)
local macro_rules | `(tactic| exists forx_run) => `(tactic| first | with_reducible exact Mir.forx_nil | ((with_reducible apply Mir.forx_cons); exists ev_run; exists ev_run; exists forx_run))
local macro_rules | `(tactic| exists isi_run) => `(tactic| first | ((with_reducible apply Mir.isi_t); exact rfl) | ((with_reducible apply Mir.isi_f); exact rfl))
local macro_rules | `(tactic| exists sq_run) => `(tactic| first | assumption | omega | (focus have := List.mem_range.mp (by assumption); omega))

namespace Law
open PySem L2 Mir Pl
theorem fldn_order (n : Nat) (order near : List (List Nat)) (S : Sto) : fldV "Space" "order" (nv S (.p (spcP n order near))) S = .ok (.p (.lst (txts order))) S := fld_order n order near S
theorem fldn_seen (n : Nat) (order near : List (List Nat)) (S : Sto) : fldV "Space" "seen" (nv S (.p (spcP n order near))) S = .ok (.p (.lst (nums (bitsL near)))) S := fld_seen n order near S
theorem fldn_told (n : Nat) (order near : List (List Nat)) (S : Sto) : fldV "Space" "told" (nv S (.p (spcP n order near))) S = .ok (.p (.str (textT n order near))) S := fld_told n order near S
theorem othL_bits {n : Nat} {l : List Nat} (hl : Lot n l) : mem_ n (2 ^ n - 1 - ((2 ^ n - 1) &&& bitsN l)) = othL n l := by
  unfold mem_ othL
  apply List.filter_congr
  intro i hi
  have hi := List.mem_range.mp hi
  rw [test_minus, bits_test hl.nd, Nat.testBit_two_pow_sub_one, decide_eq_true hi, Bool.true_and]
end Law
local macro_rules | `(tactic| exists fld_run) => `(tactic| first | with_reducible exact Law.fldn_order _ _ _ _ | with_reducible exact Law.fldn_seen _ _ _ _ | with_reducible exact Law.fldn_told _ _ _ _)

namespace Law
open PySem L2 Mir Pl
section
variable {n : Nat} {order near : List (List Nat)} (h : Spc n order near)
include h
theorem others_ok {l : List Nat} (hl : Lot n l) (S : Sto) : m_Space_others [.p (spcP n order near), .p (setP order l)] S = .ok (.p (setP order (othL n l))) S := by
  have hle := h.le
  have c1 := check_set_ok h hl
  have c2 := bits_set_ok h hl
  have c3 := all_bits_ok (l := bitsL near) (by unfold bitsL; rw [List.length_map, h.near.len]; omega)
  have en : (bitsL near).length = n := by unfold bitsL; rw [List.length_map, h.near.len]
  rw [en] at c3
  have hp : 0 < 2 ^ n := Nat.pow_pos (by decide)
  have c4 := names_of_ok h (B := 2 ^ n - 1 - ((2 ^ n - 1) &&& bitsN l)) (by omega)
  rw [othL_bits hl] at c4
  unfold m_Space_others b_Space_others
  exists fun_run
end
end Law

namespace Law
open PySem L2 Mir Pl
theorem setP_eq (order : List (List Nat)) (l : List Nat) : setP order l = .tup (l.map fun i => P.str (order.getD i [])) := by
  unfold setP txts pick
  rw [List.map_map]
  rfl
theorem lot_eq {n : Nat} {l : List Nat} (hl : Lot n l) : ((List.range n).filter fun i => l.contains i) = l :=
  sorted_eq ((range_sorted n).filter _) hl.srt fun e => by
    rw [List.mem_filter, List.mem_range]
    simp
    exact fun z => hl.lt e z
theorem any_filter {A : Type} (p : A → Bool) : ∀ l : List A, (!(l.filter p).isEmpty) = l.any p
  | [] => rfl
  | a :: l => by
    cases h : p a with
    | true => rw [List.filter_cons_of_pos h, List.any_cons, h]; rfl
    | false => rw [List.filter_cons_of_neg (by rw [h]; decide), List.any_cons, h, any_filter p l]; rfl
theorem named_ok {n : Nat} {order : List (List Nat)} (ho : order.length = n) (hn : n ≤ 1000) {l : List Nat} (hl : Lot n l) (S : Sto) : m__law_named [.p (.lst (txts order)), .p (.lst (nums l))] S = .ok (.p (setP order l)) S := by
  unfold m__law_named b__law_named
  exists fun_run
  rw [setP_eq, ho, lot_eq hl]
theorem rest_ok {n : Nat} {near : List (List Nat)} (ho : near.length = n) (hn : n ≤ 1000) {l : List Nat} (S : Sto) : m__law_rest [.p (nearP near), .p (.lst (nums l))] S = .ok (.p (.lst (nums (othL n l)))) S := by
  unfold nearP m__law_rest b__law_rest
  exists fun_run
  rw [ho]
  rfl
theorem shut_ok {n : Nat} {near : List (List Nat)} (ho : near.length = n) (hn : n ≤ 1000) (hr : ∀ i, i < n → (row near i).length ≤ 1000) {l : List Nat} (S : Sto) : m__law_shut [.p (nearP near), .p (.lst (nums l))] S = .ok (.p (.lst (nums (closL n near l)))) S := by
  have hr' : ∀ i, i ∈ List.range near.length → (near.getD i []).length ≤ 100000 := fun i hi => by
    have := hr i (by rw [← ho]; exact List.mem_range.mp hi)
    unfold row at this
    omega
  unfold nearP m__law_shut b__law_shut
  exists fun_run
  rw [ho]
  unfold closL
  simp only [any_filter]
  rfl
end Law

namespace Law
open PySem L2 Mir Pl
section
variable {n : Nat} {order near : List (List Nat)} (h : Spc n order near)
include h
theorem Spc.pick_nm {l : List Nat} (hl : Lot n l) : ∀ x ∈ pick order l, NameOk x := fun x hx => by
  obtain ⟨j, hj, rfl⟩ := List.mem_map.mp hx
  exact h.at_ (hl.lt j hj)
theorem Spc.dat {l : List Nat} (hl : Lot n l) (m : Nat) : (setP order l).dat (m + 1) = true := datL_of fun x hx => (h.pick_nm hl x hx).asc
theorem Spc.show_ {l : List Nat} (hl : Lot n l) : (setP order l).toD.showable = true := by
  show (PyData.tuple (toDL _)).showable = true
  rw [PyData.showable.eq_6]
  refine showL_map fun x _ => ?_
  show (PyData.str (strOf x)).showable = true
  rw [PyData.showable.eq_3]
theorem Spc.sz {l : List Nat} (hl : Lot n l) : (setP order l).sz ≤ 22000 := by
  show szL _ + 4 ≤ 22000
  have h1 := szL_map (f := P.str) (c := 82) (l := pick order l) fun x hx => by
    have := (h.pick_nm hl x hx).len
    show 10 * x.length + 2 ≤ 82
    omega
  have h2 := hl.len
  have h3 := h.le
  have h4 : (pick order l).length = l.length := by unfold pick; rw [List.length_map]
  unfold txts
  omega
theorem Spc.noInt {l : List Nat} (hl : Lot n l) : (setP order l).noInt = true := noInt_map fun x _ => rfl
end
end Law

namespace Pl
def lotsN : Nat → List (List Nat)
  | 0 => [[]]
  | k + 1 => lotsN k ++ (lotsN k).map fun l => l ++ [k]
theorem lotsN_len : ∀ n, (lotsN n).length = 2 ^ n
  | 0 => rfl
  | k + 1 => by
    show (lotsN k ++ (lotsN k).map fun l => l ++ [k]).length = _
    rw [List.length_append, List.length_map, lotsN_len k, Nat.pow_succ]
    omega
theorem lotsN_ne (n : Nat) : lotsN n ≠ [] := by
  intro h
  have := lotsN_len n
  rw [h] at this
  have hp : 0 < 2 ^ n := Nat.pow_pos (by decide)
  simp at this
  omega
open Law in
theorem lotsN_lot : ∀ n, ∀ l ∈ lotsN n, Lot n l
  | 0, l, h => by
    have h : l ∈ [[]] := h
    simp at h
    subst h
    exact ⟨.nil, fun e he => by cases he⟩
  | k + 1, l, h => by
    have h : l ∈ lotsN k ++ (lotsN k).map fun l => l ++ [k] := h
    rcases List.mem_append.mp h with h | h
    · have := lotsN_lot k l h
      exact ⟨this.srt, fun e he => Nat.lt_succ_of_lt (this.lt e he)⟩
    · obtain ⟨m, hm, rfl⟩ := List.mem_map.mp h
      have := lotsN_lot k m hm
      refine ⟨List.pairwise_append.mpr ⟨this.srt, List.pairwise_singleton _ _, fun a ha b hb => ?_⟩, fun e he => ?_⟩
      · rw [List.mem_singleton] at hb
        subst hb
        exact this.lt a ha
      · rcases List.mem_append.mp he with z | z
        · exact Nat.lt_succ_of_lt (this.lt e z)
        · rw [List.mem_singleton] at z
          omega
end Pl
namespace Law
open PySem L2 Mir Pl
def lotsP (ls : List (List Nat)) : P := .lst (ls.map fun l => P.lst (nums l))
theorem all_lots_ok {n : Nat} (hn : n ≤ 8) (S : Sto) : m__law_all_lots [.p (.int (n : Int))] S = .ok (.p (lotsP (lotsN n))) S := by
  unfold m__law_all_lots b__law_all_lots
  refine ws_mkFe rfl rfl ?_
  refine ws_seq (by exists ev_run) ?_
  refine ws_seqW (ws_rng (n := n) (fun i ρ T => (∃ kv lv, ρ = [some (.p (.int (n : Int))), some (.p (lotsP (lotsN i))), kv, lv]) ∧ T = S) (by exists ev_run) ⟨⟨none, none, rfl⟩, rfl⟩ ?_ ?_)
  · rintro i ρ T hi ⟨⟨kv, lv, rfl⟩, rfl⟩
    have hl := lotsN_len i
    have hp : 2 ^ i ≤ 2 ^ 8 := Nat.pow_le_pow_right (by decide) (by omega)
    have h8 : 2 ^ 8 = 256 := rfl
    have hll : (lotsN i).length + ((lotsN i).map fun l => l ++ [i]).length ≤ 100000 := by
      rw [List.length_map]
      omega
    have hl2 : (lotsN i).length ≤ 100000 := by omega
    have hl3 : ∀ y, y ∈ lotsN i → (nums y).length + [P.int (i : Int)].length ≤ 100000 := fun y hy => by
      have := (lotsN_lot i y hy).len
      simp
      omega
    have hl4 : ((lotsN i).map fun l => P.lst (nums l)).length + ((lotsN i).map fun l => P.lst (nums l ++ [.int (i : Int)])).length ≤ 100000 := by
      rw [List.length_map, List.length_map]
      omega
    have key : lotsP (lotsN (i + 1)) = .lst (((lotsN i).map fun l => P.lst (nums l)) ++ ((lotsN i).map fun l => P.lst (nums l ++ [.int (i : Int)]))) := by
      show P.lst ((lotsN i ++ (lotsN i).map fun l => l ++ [i]).map fun l => P.lst (nums l)) = _
      simp
    rw [key]
    unfold lotsP
    refine ⟨_, _, rfl, ws_of (by exists ev_run) ⟨_, .inl rfl, ⟨_, _, rfl⟩, rfl⟩⟩
  · rintro ρ' S' ⟨⟨kv, lv, rfl⟩, rfl⟩
    refine ⟨_, rfl, ws_of (by exists ev_run) ?_⟩
    exists end_run
end Law

namespace Law
open PySem L2 Mir Pl
theorem getD_inj {order : List (List Nat)} (nd : order.Nodup) {i j : Nat} (hi : i < order.length) (hj : j < order.length) (e : order.getD i [] = order.getD j []) : i = j := by
  simp [hi, hj] at e
  have pw := List.pairwise_iff_getElem.mp nd
  rcases Nat.lt_trichotomy i j with z | z | z
  · exact absurd e (pw i j hi hj z)
  · exact z
  · exact absurd e.symm (pw j i hj hi z)
section
variable {n : Nat} {order near : List (List Nat)} (h : Spc n order near)
include h
theorem pick_contains {A : List Nat} (hA : ∀ e ∈ A, e < n) {i : Nat} (hi : i < n) : (pick order A).contains (order.getD i []) = A.contains i := by
  rw [Bool.eq_iff_iff, List.contains_iff_mem, List.contains_iff_mem]
  constructor
  · intro z
    obtain ⟨j, hj, e⟩ := List.mem_map.mp z
    have := getD_inj h.nd (by rw [h.len]; exact hA j hj) (by rw [h.len]; exact hi) e
    rw [← this]
    exact hj
  · exact fun z => List.mem_map.mpr ⟨i, z, rfl⟩
theorem order_pick : order = pick order (List.range n) := by
  unfold pick
  exact h.ordr.symm
end
end Law

namespace Mir
open L2
theorem cutP_map {A B : Type} (f : A → B) (xs : List A) (lo hi : Option Int) : cutP (xs.map f) lo hi = (cutP xs lo hi).map f := by
  unfold cutP
  rw [List.length_map, List.map_take, List.map_drop]
theorem cutP_len {A : Type} (xs : List A) (lo hi : Option Int) : (cutP xs lo hi).length ≤ xs.length := by
  unfold cutP
  rw [List.length_take, List.length_drop]
  omega
end Mir
namespace Law
open PySem L2 Mir Pl
def scrP (ns : List Int) : P := .scr (ns.map P.int)
theorem urn_of_ok {ns : List Int} (hn : ns.length ≤ 63) {t : Nat} (ht : t < 100) (S : Sto) : ∃ S', m__law_urn_of [.p (scrP ns), .p (.int (t : Int))] S = .ok (.c S.length) S' ∧ Urn S' S.length ∧ S'.length = S.length + 1 ∧ ∃ c, S' = S ++ [c] := by
  obtain ⟨cell, hcell⟩ : ∃ cell : Int, eIfM (tVal (eBin bLt (eVar 1) (eCall pLen (aCons (eVar 0) aNil)))) (eItem (eVar 0) (eVar 1)) (eC (.int 0)) [some (.p (scrP ns)), some (.p (.int (t : Int))), none, none, none, none] S = .ok (.p (.int cell)) S := by
    have e1 : tVal (eBin bLt (eVar 1) (eCall pLen (aCons (eVar 0) aNil))) [some (.p (scrP ns)), some (.p (.int (t : Int))), none, none, none, none] S = .ok (decide ((t : Int) < ((ns.length : Nat) : Int))) S := by
      have e0 : pLen [scrP ns] = some (.int ((ns.length : Nat) : Int)) := by
        unfold scrP
        rw [pLen_scr, List.length_map]
      have e2 : eCall pLen (aCons (eVar 0) aNil) [some (.p (scrP ns)), some (.p (.int (t : Int))), none, none, none, none] S = .ok (.p (.int ((ns.length : Nat) : Int))) S := eCall1_of rfl e0
      exact ev_tval (ev_bin (d := .p (.int (t : Int))) rfl e2 (rd_p _ _) (rd_p _ _) rfl)
    by_cases h : t < ns.length
    · have h2 : ((t : Int) < ((ns.length : Nat) : Int)) := by omega
      rw [decide_eq_true h2] at e1
      refine ⟨ns[t], ev_if e1 (ifK_t (ev_item (d := .p (scrP ns)) (e := .p (.int (t : Int))) rfl rfl (ixv_p ?_)))⟩
      show atI (ns.map P.int) (t : Int) = _
      refine atN ?_
      rw [List.getElem?_map, List.getElem?_eq_getElem h]
      rfl
    · have h2 : ¬ ((t : Int) < ((ns.length : Nat) : Int)) := by omega
      rw [decide_eq_false h2] at e1
      exact ⟨0, ev_if e1 (ifK_f ev_c)⟩
  have bm : ∀ i : Int, bMul 80021 i = true := fun i => bMul_l (by decide) (by decide)
  have bm2 : ∀ i : Int, bMul 26 i = true := fun i => bMul_l (by decide) (by decide)
  have bm3 : ∀ i : Int, bMul 5 i = true := fun i => bMul_l (by decide) (by decide)
  have bm4 : ∀ i : Int, bMul 66029 i = true := fun i => bMul_l (by decide) (by decide)
  have mm : ∀ i : Int, bMod i 2147483323 = true := fun i => bMod_of (by decide)
  have opm : ∀ {i j : Int}, bMul i j = true → pMul (.int i) (.int j) = some (.int (i * j)) := fun h => by rw [pMul_int, h, if_pos rfl]
  have opr : ∀ {i : Int}, pIC bMod (fun i j => i % j) (.int i) (.int 2147483323) = some (.int (i % 2147483323)) := by
    intro i
    rw [pIC_int, mm, if_pos rfl]
  have go : WS (b__law_urn_of [some (.p (scrP ns)), some (.p (.int (t : Int))), none, none, none, none] S) fun f T => ∃ a b : Int, f = .rt (.c S.length) ∧ T = S ++ [.lst [.int a, .int b, .int 0]] ∧ 0 ≤ a ∧ 0 ≤ b ∧ b < 2147483323 := by
    unfold b__law_urn_of
    have e1 : eBin pAdd (eC (.int 3001)) (eBin pMul (eC (.int 80021)) (eVar 1)) [some (.p (scrP ns)), some (.p (.int (t : Int))), none, none, none, none] S = .ok (.p (.int (3001 + 80021 * (t : Int)))) S :=
      ev_bin ev_c (ev_bin ev_c (ev_var rfl) (rd_p _ _) (rd_p _ _) (opm (bm _))) (rd_p _ _) (rd_p _ _) rfl
    refine ws_seq (ev_par (ev_acons hcell (ev_acons e1 ev_anil)) rfl) ?_
    have hi : itEnum (eSl (eVar 0) oNo (oYes (eC (.int 7)))) [some (.p (scrP ns)), some (.p (.int (t : Int))), some (.p (.int cell)), some (.p (.int (3001 + 80021 * (t : Int)))), none, none] S = .ok ((List.range (cutP ns none (some 7)).length).map fun (i : Nat) => P.tup [.int (i : Int), .int ((cutP ns none (some 7)).getD i 0)]) S := by
      have e2 : pSl none (some 7) (scrP ns) = some (.lst ((cutP ns none (some 7)).map P.int)) := by
        show some (P.lst (cutP (ns.map P.int) none (some 7))) = _
        rw [cutP_map]
      exact ev_enum_map (f := P.int) (ev_sl (d := .p (scrP ns)) rfl ev_ono (ev_oyes ev_c) (rd_p _ _) e2)
    have hl := cutP_len ns none (some 7)
    refine ws_seqW (ws_forM (us := List.range (cutP ns none (some 7)).length) (fun i ρ T => (∃ mx a4 a5, ρ = [some (.p (scrP ns)), some (.p (.int (t : Int))), some (.p (.int cell)), some (.p (.int mx)), a4, a5]) ∧ T = S) hi ⟨⟨_, _, _, rfl⟩, rfl⟩ ?_ ?_)
    · rintro i u ρ T hu ⟨⟨mx, a4, a5, rfl⟩, rfl⟩
      have hu2 : u < 63 := by
        have := List.mem_range.mp (List.mem_of_getElem? hu)
        omega
      refine ⟨_, _, rfl, ws_of (ev_asg (ev_bin (ev_call (ev_acons (ev_bin (ev_bin (ev_var rfl) (ev_bin ev_c (ev_bin ev_c (ev_var rfl) (rd_p _ _) (rd_p _ _) (opm (bm2 _))) (rd_p _ _) (rd_p _ _) rfl) (rd_p _ _) (rd_p _ _) (opm ?_)) (ev_bin ev_c (ev_var rfl) (rd_p _ _) (rd_p _ _) (opm (bm3 _))) (rd_p _ _) (rd_p _ _) rfl) ev_anil) (rds_c (rd_p _ _) (rds_nil _)) rfl) ev_c (rd_p _ _) (rd_p _ _) opr) rfl) ⟨_, .inl rfl, ⟨_, _, _, rfl⟩, rfl⟩⟩
      exact bMul_r (by omega) (by omega)
    · rintro ρ' S' ⟨⟨mx, a4, a5, rfl⟩, rfl⟩
      have hb : ∃ a : Int, 0 ≤ a ∧ eIfM (tOrM (tVal (eBin bLt (eVar 2) (eC (.int 0)))) (tVal (eBin (pIB fun i j => decide (j ≤ i)) (eVar 2) (eBin (pIC bPow fun i j => i ^ j.toNat) (eC (.int 10)) (eC (.int 17)))))) (eCall pAbs (aCons (eVar 2) aNil)) (eC (.int 0)) [some (.p (scrP ns)), some (.p (.int (t : Int))), some (.p (.int cell)), some (.p (.int mx)), a4, a5] S' = .ok (.p (.int a)) S' := by
        have et : ∃ q : Bool, tOrM (tVal (eBin bLt (eVar 2) (eC (.int 0)))) (tVal (eBin (pIB fun i j => decide (j ≤ i)) (eVar 2) (eBin (pIC bPow fun i j => i ^ j.toNat) (eC (.int 10)) (eC (.int 17))))) [some (.p (scrP ns)), some (.p (.int (t : Int))), some (.p (.int cell)), some (.p (.int mx)), a4, a5] S' = .ok q S' := by
          have x1 : tVal (eBin bLt (eVar 2) (eC (.int 0))) [some (.p (scrP ns)), some (.p (.int (t : Int))), some (.p (.int cell)), some (.p (.int mx)), a4, a5] S' = .ok (decide (cell < 0)) S' := ev_tval (ev_bin (ev_var rfl) ev_c (rd_p _ _) (rd_p _ _) rfl)
          have x2 : tVal (eBin (pIB fun i j => decide (j ≤ i)) (eVar 2) (eBin (pIC bPow fun i j => i ^ j.toNat) (eC (.int 10)) (eC (.int 17)))) [some (.p (scrP ns)), some (.p (.int (t : Int))), some (.p (.int cell)), some (.p (.int mx)), a4, a5] S' = .ok (decide ((10 : Int) ^ 17 ≤ cell)) S' :=
            ev_tval (ev_bin (ev_var rfl) (ev_bin ev_c ev_c (rd_p _ _) (rd_p _ _) (show pIC bPow (fun i j => i ^ j.toNat) (.int 10) (.int 17) = some (.int ((10 : Int) ^ 17)) from by rw [pIC_int, if_pos (by decide)]; rfl)) (rd_p _ _) (rd_p _ _) rfl)
          exact ⟨_, ev_tor x1 (orK_s fun _ => x2)⟩
        obtain ⟨q, et⟩ := et
        cases q with
        | true => exact ⟨if cell < 0 then -cell else cell, by split <;> omega, ev_if et (ifK_t (ev_call (ev_acons (ev_var rfl) ev_anil) (rds_c (rd_p _ _) (rds_nil _)) (pAbs_int _)))⟩
        | false => exact ⟨0, by decide, ev_if et (ifK_f ev_c)⟩
      obtain ⟨a, ha, hb⟩ := hb
      refine ⟨_, rfl, ws_of (ev_ret (ev_lstC (ev_acons hb (ev_acons (ev_bin (ev_call (ev_acons (ev_bin (ev_var rfl) (ev_bin ev_c (ev_var rfl) (rd_p _ _) (rd_p _ _) (opm (bm4 _))) (rd_p _ _) (rd_p _ _) rfl) ev_anil) (rds_c (rd_p _ _) (rds_nil _)) rfl) ev_c (rd_p _ _) (rd_p _ _) opr) (ev_acons ev_c ev_anil))) (frzs_s fr_p (frzs_s fr_p (frzs_s fr_p frzs_z))) (by simp))) ⟨a, _, rfl, rfl, ha, Int.emod_nonneg _ (by decide), Int.emod_lt_of_pos _ (by decide)⟩⟩
  obtain ⟨f, T, e, a, b, rfl, rfl, ha, hb0, hb1⟩ := go
  refine ⟨S ++ [.lst [.int a, .int b, .int 0]], ?_, ⟨a, b, 0, by simp, ha, hb0, hb1, by decide⟩, by simp, _, rfl⟩
  unfold m__law_urn_of
  have hk : mkK 2 4 b__law_urn_of [.p (scrP ns), .p (.int (t : Int))] S = endK S.length (b__law_urn_of [some (.p (scrP ns)), some (.p (.int (t : Int))), none, none, none, none] S) := rfl
  rw [hk, e]
  unfold endK
  dsimp only
  have h0 : (S ++ [Cell.lst [.int a, .int b, .int 0]])[S.length]? = some (.lst [.int a, .int b, .int 0]) := by simp
  rw [if_neg (by omega), h0]
  dsimp only
  rw [take_app]
theorem law_loop {R U : MF} {ns : List Int} (hR : ∀ S k, Urn S k → ∃ S', R [.c k] S = .ok (.p (.bl true)) S') (hU : ∀ t S, t < 100 → ∃ S', U [.p (scrP ns), .p (.int ((t : Nat) : Int))] S = .ok (.c S.length) S' ∧ Urn S' S.length) :
    ∀ (l : List Nat) (S : Sto), (∀ t ∈ l, t < 100) → ∃ S', lcGo (gNm 1) tsYes (eFn R (aCons (eFn U (aCons (eVar 0) (aCons (eVar 1) aNil))) aNil)) [some (.p (scrP ns)), none] (l.map fun (k : Nat) => P.int (k : Int)) S = .ok (l.map fun _ => P.bl true) S'
  | [], S, _ => ⟨S, rfl⟩
  | t :: l, S, h => by
    obtain ⟨S1, e1, u1⟩ := hU t S (h t List.mem_cons_self)
    obtain ⟨S2, e2⟩ := hR S1 S.length u1
    obtain ⟨S3, e3⟩ := law_loop hR hU l S2 fun x hx => h x (List.mem_cons_of_mem _ hx)
    exact ⟨S3, lcx_yes rfl (ev_fn (ev_acons (ev_fn (ev_acons (ev_var rfl) (ev_acons (ev_var rfl) ev_anil)) e1) ev_anil) e2) fr_p e3⟩
theorem law_end {R U : MF} {K : Nat} (hK : 2 ≤ K) (hK2 : K < 100) {ns : List Int} (hR : ∀ S k, Urn S k → ∃ S', R [.c k] S = .ok (.p (.bl true)) S') (hU : ∀ t S, t < 100 → ∃ S', U [.p (scrP ns), .p (.int ((t : Nat) : Int))] S = .ok (.c S.length) S' ∧ Urn S' S.length) {kl : Int} (hkl : kl = (K : Int)) (S : Sto) :
    ∃ S', mkF 1 1 (sRet (eCall pAll (aCons (eLc (itRange1 (eCall pMax2 (aCons (eC (.int 2)) (aCons (eCall pMin2 (aCons (eCall pLen (aCons (eVar 0) aNil)) (aCons (eC (.int kl)) aNil))) aNil)))) [1] (gNm 1) tsYes (eFn R (aCons (eFn U (aCons (eVar 0) (aCons (eVar 1) aNil))) aNil))) aNil))) [.p (scrP ns)] S = .ok (.p (.bl true)) S' := by
  have e0 : pLen [scrP ns] = some (.int ((ns.length : Nat) : Int)) := by
    unfold scrP
    rw [pLen_scr, List.length_map]
  let n : Nat := max 2 (min ns.length K)
  have hr : itRange1 (eCall pMax2 (aCons (eC (.int 2)) (aCons (eCall pMin2 (aCons (eCall pLen (aCons (eVar 0) aNil)) (aCons (eC (.int kl)) aNil))) aNil))) [some (.p (scrP ns)), none] S = .ok ((List.range n).map fun (k : Nat) => P.int (k : Int)) S := by
    refine ev_range1i (i := ((n : Nat) : Int)) ?_ rfl (by omega)
    have e1 : pMax2 [.int 2, .int (if kl < ((ns.length : Nat) : Int) then kl else ((ns.length : Nat) : Int))] = some (.int ((n : Nat) : Int)) := by
      show some (P.int (if (if kl < ((ns.length : Nat) : Int) then kl else ((ns.length : Nat) : Int)) > 2 then (if kl < ((ns.length : Nat) : Int) then kl else ((ns.length : Nat) : Int)) else 2)) = _
      congr 2
      subst hkl
      split <;> split <;> omega
    exact ev_call (ev_acons ev_c (ev_acons (ev_call (ev_acons (ev_call (ev_acons (ev_var rfl) ev_anil) (rds_c (rd_p _ _) (rds_nil _)) e0) (ev_acons ev_c ev_anil)) (rds_c (rd_p _ _) (rds_c (rd_p _ _) (rds_nil _))) rfl) ev_anil)) (rds_c (rd_p _ _) (rds_c (rd_p _ _) (rds_nil _))) e1
  obtain ⟨S', e⟩ := law_loop (R := R) (U := U) hR hU (List.range n) S fun t ht => by
    have := List.mem_range.mp ht
    omega
  refine ⟨S'.take S.length, ev_mkF rfl rfl (ev_ret (ev_call (ev_acons (ev_lcx hr (by rw [List.length_map, List.length_range]; omega) rfl e) ev_anil) (rds_c (rd_p _ _) (rds_nil _)) op_all)) ?_⟩
  rw [endF_p]
  simp
end Law

namespace Pl
end Pl
namespace Law
open PySem L2 Mir Pl
theorem check_space_ok (n : Nat) (order near : List (List Nat)) (S : Sto) : m_check_space [.p (spcP n order near)] S = .ok (.p .non) S := by
  unfold m_check_space b_check_space
  exists fun_run
def KW : List (List Nat) := [[97, 108, 108], [109, 101, 101, 116, 105, 110, 103], [112, 105, 110, 110, 101, 100], [98, 111, 116, 104], [112, 97, 114, 116, 101, 100], [112, 108, 97, 105, 110]]
theorem check_kind_of {k : List Nat} (h : ∀ S, b_check_kind [some (.p (.str k))] S = .ok (.nx [some (.p (.str k))]) S) (S : Sto) : m_check_kind [.p (.str k)] S = .ok (.p .non) S := by
  unfold m_check_kind
  exact ev_mkF rfl rfl (h S) end_nx
theorem check_kind_ok {k : List Nat} (h : k ∈ KW) (S : Sto) : m_check_kind [.p (.str k)] S = .ok (.p .non) S := by
  unfold KW at h
  simp only [List.mem_cons, List.not_mem_nil, or_false] at h
  rcases h with rfl | rfl | rfl | rfl | rfl | rfl <;> exact check_kind_of (fun S => by kernel_rfl) S
section
variable {n : Nat} {near : List (List Nat)} (h : Near n near) (hn : n ≤ 256)
include h hn
end
end Law

namespace Pl
open Law
section
variable {n : Nat} {near : List (List Nat)}
variable (h : Near n near)
include h
end
end Pl

namespace Wo
open PySem PySem.StrLaws
theorem replL_le {y z : List Nat} (hz : z.length < y.length) : ∀ (n : Nat) (x : List Nat), x.length ≤ n → replL y z x = x ∨ (replL y z x).length < x.length
  | n, [], _ => .inl replL_nil
  | 0, c :: r, h => absurd h (by simp)
  | n + 1, c :: r, h => by
    have hy : y ≠ [] := fun e => by rw [e] at hz; exact Nat.not_lt_zero _ hz
    by_cases q : (c :: r).take y.length = y
    · right
      have hl := congrArg List.length q
      rw [List.length_take] at hl
      rw [replL_hit hy q, List.length_append]
      have hd : ((c :: r).drop y.length).length ≤ n := by rw [List.length_drop]; omega
      have hdl : ((c :: r).drop y.length).length = (c :: r).length - y.length := List.length_drop
      rcases replL_le hz n ((c :: r).drop y.length) hd with e | e
      · rw [e]; omega
      · omega
    · rw [replL_miss q]
      rcases replL_le hz n r (by simpa using h) with e | e
      · exact .inl (by rw [e])
      · exact .inr (by simp only [List.length_cons]; omega)
abbrev Rules := List (List Nat × List Nat)
def stepR (rs : Rules) (x : List Nat) : List Nat := rs.foldl (fun x p => replL p.1 p.2 x) x
def okR (rs : Rules) : Bool := rs.all fun p => decide (p.2.length < p.1.length) && decide (p.1.length ≤ 10)
theorem stepR_le : ∀ {rs : Rules}, okR rs = true → ∀ x, stepR rs x = x ∨ (stepR rs x).length < x.length
  | [], _, x => .inl rfl
  | p :: rs, h, x => by
    have h : ((decide (p.2.length < p.1.length) && decide (p.1.length ≤ 10)) && okR rs) = true := h
    rw [Bool.and_eq_true, Bool.and_eq_true] at h
    have h1 := of_decide_eq_true h.1.1
    show stepR rs (replL p.1 p.2 x) = x ∨ (stepR rs (replL p.1 p.2 x)).length < x.length
    rcases replL_le h1 _ x (Nat.le_refl _) with e | e
    · rw [e]; exact stepR_le h.2 x
    · rcases stepR_le h.2 (replL p.1 p.2 x) with e2 | e2
      · rw [e2]; exact .inr e
      · exact .inr (Nat.lt_trans e2 e)
def shortN (rs : Rules) : Nat → List Nat → List Nat
  | 0, x => x
  | n + 1, x => if stepR rs x = x then x else shortN rs n (stepR rs x)
def short (rs : Rules) (x : List Nat) : List Nat := shortN rs (x.length + 1) x
def flipS (c : Nat) : Nat := if c = 99 then 105 else 99
def plainStep (p : List Nat × Bool) (c : Nat) : List Nat × Bool := if c = 110 then (p.1, !p.2) else (p.1 ++ [if p.2 then flipS c else c], p.2)
def plainW (w : List Nat) : List Nat × Bool := w.foldl plainStep ([], false)
def signs (w : List Nat) : Bool := w.all fun c => c == 99 || c == 105 || c == 110
theorem plain_len : ∀ (w : List Nat) (p : List Nat × Bool), (w.foldl plainStep p).1.length ≤ p.1.length + w.length
  | [], p => Nat.le_refl _
  | c :: w, p => by
    have h := plain_len w (plainStep p c)
    have h2 : (plainStep p c).1.length ≤ p.1.length + 1 := by
      unfold plainStep
      split
      · exact Nat.le_succ _
      · simp
    show ((w.foldl plainStep (plainStep p c)).1.length ≤ _)
    rw [List.length_cons]
    omega
def R0 : Rules := [([99, 99], [99]), ([105, 105], [105]), ([99, 105, 99, 105], [99, 105]), ([105, 99, 105, 99], [105, 99])]
def LW : List (List Nat × Rules) := [([97, 108, 108], []),
  ([109, 101, 101, 116, 105, 110, 103], [([99, 105, 99], [105, 99]), ([105, 99, 105], [99, 105])]),
  ([112, 105, 110, 110, 101, 100], [([99, 105, 99], [99, 105]), ([105, 99, 105], [105, 99])]),
  ([98, 111, 116, 104], [([99, 105, 99], [105, 99]), ([105, 99, 105], [105, 99]), ([99, 105], [105, 99])]),
  ([112, 97, 114, 116, 101, 100], [([105, 99], [99]), ([99, 105], [105])]),
  ([112, 108, 97, 105, 110], [([99], []), ([105], [])])]
def rulesK (k : List Nat) : Rules := R0 ++ ((LW.find? fun q => q.1 == k).map (·.2)).getD []
abbrev Kd := List Nat × Bool
def keyW (k w : List Nat) : Kd := (short (rulesK k) (plainW w).1, (plainW w).2)
def lastL : Nat → List (List Nat)
  | 0 => [[]]
  | n + 1 => (lastL n).flatMap fun w => [w ++ [99], w ++ [105], w ++ [110]]
def wordsL : Nat → List (List Nat)
  | 0 => [[]]
  | n + 1 => wordsL n ++ lastL (n + 1)
def putF (f : Kd × List Nat → Kd) (acc : List (Kd × List Nat)) (q : Kd × List Nat) : List (Kd × List Nat) := if acc.any fun z => z.1 == q.1 then acc else acc ++ [q]
def firstsL (k : List Nat) (ws : List (List Nat)) : List (Kd × List Nat) := ws.foldl (fun acc w => putF (·.1) acc (keyW k w, w)) []
def W14 : List (List Nat) := (firstsL [97, 108, 108] (wordsL 4)).map (·.2)
end Wo

namespace Law
open PySem L2 Mir Wo
abbrev rwp1 (p : List Nat × List Nat) : P := .rwp p.1 p.2
theorem rep_go {a0 a1 a2 : Option Vl} : ∀ {rs : Rules}, okR rs = true → ∀ (x : List Nat) (a4 a5 : Option Vl), x.length ≤ 1000 → ∃ b4 b5, repGo 4 5 3 (rs.map rwp1) [a0, a1, a2, some (.p (.str x)), a4, a5] = some [a0, a1, a2, some (.p (.str (stepR rs x))), b4, b5]
  | [], _, x, a4, a5, _ => ⟨a4, a5, rfl⟩
  | p :: rs, h, x, a4, a5, hx => by
    have h' : ((decide (p.2.length < p.1.length) && decide (p.1.length ≤ 10)) && okR rs) = true := h
    rw [Bool.and_eq_true, Bool.and_eq_true] at h'
    have h1 := of_decide_eq_true h'.1.1
    have h2 := of_decide_eq_true h'.1.2
    have hl : (StrLaws.replL p.1 p.2 x).length ≤ x.length := by
      rcases replL_le h1 _ x (Nat.le_refl _) with e | e
      · rw [e]; exact Nat.le_refl _
      · omega
    obtain ⟨b4, b5, e⟩ := rep_go h'.2 (StrLaws.replL p.1 p.2 x) (some (.p (.str p.1))) (some (.p (.str p.2))) (by omega)
    refine ⟨b4, b5, ?_⟩
    have hm : (x.length + 1) * p.2.length ≤ 1001 * 10 := Nat.mul_le_mul (by omega) (by omega)
    show (if 1 ≤ p.1.length ∧ x.length + (x.length + 1) * p.2.length ≤ 16777216 then repGo 4 5 3 (rs.map rwp1) [a0, a1, a2, some (.p (.str (StrLaws.replL p.1 p.2 x))), some (.p (.str p.1)), some (.p (.str p.2))] else none) = _
    rw [if_pos ⟨by omega, by omega⟩]
    exact e
theorem replL_mem {y z : List Nat} (hy : y ≠ []) : ∀ (n : Nat) (x : List Nat), x.length ≤ n → ∀ c ∈ StrLaws.replL y z x, c ∈ x ∨ c ∈ z
  | n, [], _, c, hc => by rw [StrLaws.replL_nil] at hc; cases hc
  | 0, c :: r, h, _, _ => absurd h (by simp)
  | n + 1, d :: r, h, c, hc => by
    have hy0 : 0 < y.length := List.length_pos_iff.mpr hy
    by_cases q : (d :: r).take y.length = y
    · rw [StrLaws.replL_hit hy q] at hc
      rcases List.mem_append.mp hc with e | e
      · exact .inr e
      · have hd : ((d :: r).drop y.length).length ≤ n := by
          rw [List.length_drop]
          have : (d :: r).length ≤ n + 1 := h
          omega
        rcases replL_mem hy n _ hd c e with e2 | e2
        · exact .inl (List.mem_of_mem_drop e2)
        · exact .inr e2
    · rw [StrLaws.replL_miss q] at hc
      rcases List.mem_cons.mp hc with e | e
      · exact .inl (by rw [e]; exact List.mem_cons_self)
      · rcases replL_mem hy n r (by simpa using h) c e with e2 | e2
        · exact .inl (List.mem_cons_of_mem _ e2)
        · exact .inr e2
def ascR (rs : Rules) : Bool := rs.all fun p => asc p.2
theorem asc_of {x : List Nat} : asc x = true ↔ ∀ c ∈ x, c < 128 := by
  unfold asc
  rw [List.all_eq_true]
  exact ⟨fun h c hc => of_decide_eq_true (h c hc), fun h c hc => decide_eq_true (h c hc)⟩
theorem step_asc : ∀ {rs : Rules}, okR rs = true → ascR rs = true → ∀ {x : List Nat}, asc x = true → asc (stepR rs x) = true
  | [], _, _, x, h => h
  | p :: rs, h, ha, x, hx => by
    have h' : ((decide (p.2.length < p.1.length) && decide (p.1.length ≤ 10)) && okR rs) = true := h
    rw [Bool.and_eq_true, Bool.and_eq_true] at h'
    have h1 := of_decide_eq_true h'.1.1
    have ha' : (asc p.2 && ascR rs) = true := ha
    rw [Bool.and_eq_true] at ha'
    refine step_asc h'.2 ha'.2 (asc_of.mpr fun c hc => ?_)
    rcases replL_mem (y := p.1) (z := p.2) (fun e => by rw [e] at h1; exact Nat.not_lt_zero _ h1) _ x (Nat.le_refl _) c hc with e | e
    · exact asc_of.mp hx c e
    · exact asc_of.mp ha'.1 c e
abbrev tsW : MT := tVal (eBin pNe (eVar 0) (eVar 3))
abbrev bdW : MS := sSeq (sAsg (eVar 3) (gNm 0)) (sForRep (itOf (eVar 2)) 4 5 3)
abbrev enW (y : P) (kd : List Nat) (rs : Rules) (x : List Nat) (a4 a5 : Option Vl) : En := [some (.p y), some (.p (.str kd)), some (.p (.lst (rs.map rwp1))), some (.p (.str x)), a4, a5]
theorem bodyW {rs : Rules} (h : okR rs = true) {y : P} {kd x : List Nat} (hx : x.length ≤ 1000) (a4 a5 : Option Vl) (S : Sto) : ∃ b4 b5, bdW (enW y kd rs x a4 a5) S = .ok (.nx (enW (.str x) kd rs (stepR rs x) b4 b5)) S := by
  obtain ⟨b4, b5, e⟩ := rep_go (a0 := some (.p (.str x))) (a1 := some (.p (.str kd))) (a2 := some (.p (.lst (rs.map rwp1)))) h x a4 a5 hx
  refine ⟨b4, b5, ev_seq (ev_asg (ev_var rfl) (ev_gnm rfl)) (thn_n ?_)⟩
  unfold sForRep
  rw [ev_itOf (ev_var rfl) fr_p rfl, go_ok]
  show (match repGo 4 5 3 (rs.map rwp1) [some (.p (.str x)), some (.p (.str kd)), some (.p (.lst (rs.map rwp1))), some (.p (.str x)), a4, a5] with
    | some ρ2 => RF.ok (.nx ρ2) S
    | none => .bad) = _
  rw [e]
theorem loopW {rs : Rules} (h : okR rs = true) (ha : ascR rs = true) {kd : List Nat} (S : Sto) : ∀ (n F : Nat) (y : List Nat), asc y = true → y.length < n → n ≤ F → y.length ≤ 1000 → ∀ a4 a5, ∃ z b4 b5, whGo tsW bdW F (enW (.str y) kd rs (stepR rs y) a4 a5) S = .ok (.nx (enW z kd rs (shortN rs n y) b4 b5)) S
  | 0, _, y, _, hn, _, _, _, _ => absurd hn (Nat.not_lt_zero _)
  | n + 1, 0, y, _, _, hF, _, _, _ => absurd hF (by omega)
  | n + 1, F + 1, y, hy, hn, hF, hz, a4, a5 => by
    have ht : tsW (enW (.str y) kd rs (stepR rs y) a4 a5) S = .ok (!(y == stepR rs y)) S := ev_tval (ev_bin (ev_var rfl) (ev_var rfl) rfl rfl (op_neS hy (step_asc h ha hy)))
    by_cases q : stepR rs y = y
    · refine ⟨.str y, a4, a5, ?_⟩
      have e : shortN rs (n + 1) y = y := by show (if stepR rs y = y then y else _) = y; rw [if_pos q]
      rw [e]
      rw [show (!(y == stepR rs y)) = false by rw [q]; simp] at ht
      rw [wh_end ht, q]
    · have e : shortN rs (n + 1) y = shortN rs n (stepR rs y) := by show (if stepR rs y = y then y else _) = _; rw [if_neg q]
      have hl : (stepR rs y).length < y.length := by
        rcases stepR_le h y with z | z
        · exact absurd z q
        · exact z
      rw [show (!(y == stepR rs y)) = true by simp [Ne.symm q]] at ht
      obtain ⟨b4, b5, e1⟩ := bodyW h (y := .str y) (kd := kd) (x := stepR rs y) (by omega) a4 a5 S
      obtain ⟨z, c4, c5, e2⟩ := loopW h ha S n F (stepR rs y) (step_asc h ha hy) (by omega) (by omega) (by omega) b4 b5
      exact ⟨z, c4, c5, by rw [e, wh_step ht e1, e2]⟩
def KDS : List (List Nat) := LW.map (·.1)
theorem rules_ok : ∀ k ∈ KDS, ascR (rulesK k) = true ∧ (rulesK k).length ≤ 20 ∧ (∃ rs, tabLook k t_LAWS = some (.tup (rs.map rwp1)) ∧ rulesK k = R0 ++ rs) := by
  intro k hk
  have hk : k = [97, 108, 108] ∨ k = [109, 101, 101, 116, 105, 110, 103] ∨ k = [112, 105, 110, 110, 101, 100] ∨ k = [98, 111, 116, 104] ∨ k = [112, 97, 114, 116, 101, 100] ∨ k = [112, 108, 97, 105, 110] := by
    simpa [KDS, LW] using hk
  rcases hk with rfl | rfl | rfl | rfl | rfl | rfl
  · exact ⟨by decide, by decide, _, rfl, rfl⟩
  · exact ⟨by decide, by decide, _, rfl, rfl⟩
  · exact ⟨by decide, by decide, _, rfl, rfl⟩
  · exact ⟨by decide, by decide, _, rfl, rfl⟩
  · exact ⟨by decide, by decide, _, rfl, rfl⟩
  · exact ⟨by decide, by decide, _, rfl, rfl⟩
theorem shortened_ok {k x : List Nat} (hk : k ∈ KDS) (h1 : okR (rulesK k) = true) (hx : asc x = true) (hl : x.length ≤ 900) (S : Sto) : m_shortened [.p (.str x), .p (.str k)] S = .ok (.p (.str (short (rulesK k) x))) S := by
  obtain ⟨h2, hr20, rs, h3, h4⟩ := rules_ok k hk
  have hrl : rs.length ≤ 50 := by
    rw [h4, List.length_append] at hr20
    omega
  have disp : eLst (aRwp [99, 99] [99] (aRwp [105, 105] [105] (aRwp [99, 105, 99, 105] [99, 105] (aRwp [105, 99, 105, 99] [105, 99] (aStar (eTabItem t_LAWS (eVar 1)) aNil))))) [some (.p (.str x)), some (.p (.str k)), none, none, none, none] S = .ok (.p (.lst ((rulesK k).map rwp1))) S := by
    have e1 : eTabItem t_LAWS (eVar 1) [some (.p (.str x)), some (.p (.str k)), none, none, none, none] S = .ok (.p (.tup (rs.map rwp1))) S := by
      unfold eTabItem
      rw [ev_var rfl, bind_ok]
      unfold tabI
      dsimp only
      rw [h3]
    have e2 : aStar (eTabItem t_LAWS (eVar 1)) aNil [some (.p (.str x)), some (.p (.str k)), none, none, none, none] S = .ok ((rs.map rwp1).map Vl.p) S := by
      unfold aStar
      rw [e1, bind_ok]
      show (aNil _ S).bind (fun ys S2 => Res.ok ((rs.map rwp1).map Vl.p ++ ys) S2) = _
      rw [ev_anil, bind_ok, List.append_nil]
    have e3 : ∀ (y z : List Nat) (r : MA) (ds : List Vl) (ρ : En), r ρ S = .ok ds S → aRwp y z r ρ S = .ok (.p (.rwp y z) :: ds) S := fun y z r ds ρ h => by
      unfold aRwp
      rw [h, bind_ok]
    have e4 := e3 [99, 99] [99] _ _ _ (e3 [105, 105] [105] _ _ _ (e3 [99, 105, 99, 105] [99, 105] _ _ _ (e3 [105, 99, 105, 99] [105, 99] _ _ _ e2)))
    refine ev_lst e4 (xs := (rulesK k).map rwp1) (S2 := S) ?_ ?_
    · rw [h4, List.map_append]
      have : ∀ xs : List P, frzs (xs.map Vl.p) S = .ok xs S := fun xs => by
        induction xs with
        | nil => exact frzs_z
        | cons a l ih => exact frzs_s fr_p ih
      exact this (R0.map rwp1 ++ rs.map rwp1)
    · rw [h4, List.length_map, List.length_append]
      have : R0.length = 4 := rfl
      omega
  unfold m_shortened b_shortened
  refine ws_mkFe (ρ := [some (.p (.str x)), some (.p (.str k)), none, none, none, none]) rfl rfl ?_
  refine ws_seq (ev_asg disp (ev_gnm rfl)) ?_
  refine ws_seq (ev_asg (ev_var rfl) (ev_gnm rfl)) ?_
  refine ws_seq (ev_asg ev_c (ev_gnm rfl)) ?_
  obtain ⟨b4, b5, w1⟩ := bodyW h1 (y := .non) (kd := k) (x := x) (by omega) none none S
  obtain ⟨z, c4, c5, w2⟩ := loopW h1 h2 (kd := k) S (x.length + 1) 999 x hx (Nat.lt_succ_self _) (by omega) (by omega) b4 b5
  have ht : tsW (enW .non k (rulesK k) x none none) S = .ok true S := ev_tval (ev_bin (ev_var rfl) (ev_var rfl) rfl rfl (show pNe .non (.str x) = some (.bl true) by
    unfold pNe
    rw [if_pos (by rw [Bool.and_eq_true]; exact ⟨rfl, hx⟩)]
    rfl))
  have w3 := (wh_step (n := 999) ht w1).trans w2
  refine ws_seq (show sWhile 1000 tsW bdW _ S = _ from w3) ?_
  exact ws_of (ev_ret (ev_var rfl)) end_self
end Law

namespace Law
open PySem L2 Mir Wo
theorem signs_of {w : List Nat} (h : signs w = true) : ∀ c ∈ w, c = 99 ∨ c = 105 ∨ c = 110 := fun c hc => by
  have := List.all_eq_true.mp h c hc
  simpa [or_assoc] using this
theorem plain_asc : ∀ (w : List Nat) (p : List Nat × Bool), signs w = true → asc p.1 = true → asc (w.foldl plainStep p).1 = true
  | [], p, _, h => h
  | c :: w, p, hw, h => by
    have hw' : ((c == 99 || c == 105 || c == 110) && signs w) = true := hw
    rw [Bool.and_eq_true] at hw'
    refine plain_asc w (plainStep p c) hw'.2 ?_
    unfold plainStep
    split
    · exact h
    · refine asc_of.mpr fun d hd => ?_
      rcases List.mem_append.mp hd with z | z
      · exact asc_of.mp h d z
      · have z : d = if p.2 = true then flipS c else c := by simpa using z
        rw [z]
        have hc : c = 99 ∨ c = 105 ∨ c = 110 := by simpa [or_assoc] using hw'.1
        rcases hc with rfl | rfl | rfl <;> split <;> decide
theorem fold_take {A B : Type} (f : B → A → B) {l : List A} {b : B} {i : Nat} {a : A} (h : l[i]? = some a) : (l.take (i + 1)).foldl f b = f ((l.take i).foldl f b) a := by
  have e : l.take (i + 1) = l.take i ++ [a] := by
    rw [List.take_succ, h]
    rfl
  rw [e, List.foldl_append]
  rfl
theorem plain_word_ok {w : List Nat} (hw : signs w = true) (hl : w.length ≤ 900) (S : Sto) : m_plain_word [.p (.str w)] S = .ok (.p (.tup [.str (plainW w).1, .bl (plainW w).2])) S := by
  unfold m_plain_word b_plain_word
  refine ws_mkFe (ρ := [some (.p (.str w)), none, none, none]) rfl rfl ?_
  refine ws_seq (ev_parG (ev_acons ev_c (ev_acons ev_c ev_anil)) rfl (by decide) (ev_gcn (ev_gnm rfl) (ev_gcn (ev_gnm rfl) ev_gnl))) ?_
  refine ws_seqW (ws_forM (us := w) (en := fun c => P.str [c]) (fun i ρ T => (∃ a1, ρ = [some (.p (.str w)), a1, some (.p (.str (plainW (w.take i)).1)), some (.p (.bl (plainW (w.take i)).2))]) ∧ T = S) (ev_itOf (ev_var rfl) fr_p rfl) ⟨⟨_, rfl⟩, rfl⟩ ?_ ?_)
  · rintro i c ρ T hi ⟨⟨a1, rfl⟩, rfl⟩
    have hc := signs_of hw c (List.mem_of_getElem? hi)
    have e : plainW (w.take (i + 1)) = plainStep (plainW (w.take i)) c := fold_take plainStep hi
    have hln : (plainW (w.take i)).1.length ≤ 900 := by
      have := plain_len (w.take i) ([], false)
      have h2 : (w.take i).length ≤ w.length := List.length_take_le' ..
      show ((w.take i).foldl plainStep ([], false)).1.length ≤ 900
      simp only [List.length_nil] at this
      omega
    rw [e]
    generalize plainW (w.take i) = q at hln
    obtain ⟨f, b⟩ := q
    refine ⟨_, _, ev_gnm rfl, ?_⟩
    by_cases hn : c = 110
    · subst hn
      have t : pEq (.str [110]) (.str [110]) = some (.bl true) := rfl
      have en : eNotM (eVar 3) [some (.p (.str w)), some (.p (.str [110])), some (.p (.str f)), some (.p (.bl b))] T = .ok (.p (.bl (!b))) T := by
        cases b <;> rfl
      exact ws_of (ev_sif (ev_tval (ev_bin (ev_var rfl) ev_c rfl rfl t)) (ifK_t (ev_asg en (ev_gnm rfl)))) ⟨_, .inl rfl, ⟨_, rfl⟩, rfl⟩
    · have t : pEq (.str [c]) (.str [110]) = some (.bl false) := by
        have h1 : asc [c] = true := asc_of.mpr fun d hd => by
          have hd : d = c := by simpa using hd
          rw [hd]; omega
        rw [op_eqS h1 (by decide)]
        simp [hn]
      have ei : eIfM (tVal (eVar 3)) (eTabItem t_TURNED (eVar 1)) (eVar 1) [some (.p (.str w)), some (.p (.str [c])), some (.p (.str f)), some (.p (.bl b))] T = .ok (.p (.str [if b then flipS c else c])) T := by
        rcases hc with rfl | rfl | rfl
        · cases b <;> rfl
        · cases b <;> rfl
        · exact absurd rfl hn
      have es : plainStep (f, b) c = (f ++ [if b then flipS c else c], b) := by
        unfold plainStep
        rw [if_neg hn]
      rw [es]
      exact ws_of (ev_sif (ev_tval (ev_bin (ev_var rfl) ev_c rfl rfl t)) (ifK_f (ev_asg (ev_bin (ev_var rfl) ei rfl rfl (op_addS (by simp only [List.length_cons, List.length_nil]; simp only at hln; omega))) (ev_gnm rfl)))) ⟨_, .inl rfl, ⟨_, rfl⟩, rfl⟩
  · rintro ρ' T ⟨⟨a1, rfl⟩, rfl⟩
    rw [List.take_length]
    exact ⟨_, rfl, ws_of (ev_ret (ev_tup (ev_acons (ev_var rfl) (ev_acons (ev_var rfl) ev_anil)) (frzs_s fr_p (frzs_s fr_p frzs_z)) (by simp))) end_self⟩
abbrev keyP (q : Kd) : P := .tup [.str q.1, .bl q.2]
theorem key_of_ok {k w : List Nat} (hk : k ∈ KDS) (h1 : okR (rulesK k) = true) (hw : signs w = true) (hl : w.length ≤ 900) (S : Sto) : m_key_of [.p (.str w), .p (.str k)] S = .ok (.p (keyP (keyW k w))) S := by
  have c1 := plain_word_ok hw hl
  have hln : (plainW w).1.length ≤ 900 := by
    have := plain_len w ([], false)
    simp only [List.length_nil] at this
    show (w.foldl plainStep ([], false)).1.length ≤ 900
    omega
  have c2 := shortened_ok hk h1 (x := (plainW w).1) (plain_asc w _ hw rfl) hln
  unfold m_key_of b_key_of
  refine ws_mkFe (ρ := [some (.p (.str w)), some (.p (.str k)), none, none]) rfl rfl ?_
  refine ws_seq (ev_asg (ev_fn (ev_acons (ev_var rfl) ev_anil) (c1 _)) (ev_gtp rfl rfl (ev_gcn (ev_gnm rfl) (ev_gcn (ev_gnm rfl) ev_gnl)))) ?_
  exact ws_of (ev_ret (ev_tup (ev_acons (ev_fn (ev_acons (ev_var rfl) (ev_acons (ev_var rfl) ev_anil)) (c2 _)) (ev_acons (ev_var rfl) ev_anil)) (frzs_s fr_p (frzs_s fr_p frzs_z)) (by simp))) end_self
theorem extW {S : Sto} {k : Nat} {xs ys : List P} (h : S[k]? = some (.lst xs)) (hl : xs.length + ys.length ≤ 100000) : fExt (.c k) [.p (.lst ys)] S = .ok (.p .non) (S.set k (.lst (xs ++ ys))) := by
  unfold fExt
  dsimp only
  rw [h, rd_p]
  dsimp only
  rw [if_pos hl]
theorem endW {S : Sto} {xs : List P} : endF S.length (.ok (.rt (.c S.length)) (S ++ [.lst xs])) = .ok (.p (.lst xs)) S := by
  show retV S.length (.c S.length) _ = _
  unfold retV
  dsimp only
  rw [if_neg (Nat.lt_irrefl _), frz_lst cell0, bind_ok]
  simp
theorem last_len : ∀ n, (lastL n).length = 3 ^ n
  | 0 => rfl
  | n + 1 => by
    have h : ∀ l : List (List Nat), (l.flatMap fun w => [w ++ [99], w ++ [105], w ++ [110]]).length = 3 * l.length := fun l => by
      induction l with
      | nil => rfl
      | cons a l ih => rw [List.flatMap_cons, List.length_append, ih, List.length_cons]; simp; omega
    show ((lastL n).flatMap fun w => [w ++ [99], w ++ [105], w ++ [110]]).length = _
    rw [h, last_len n, Nat.pow_succ, Nat.mul_comm]
theorem last_mem : ∀ n, ∀ w ∈ lastL n, w.length = n ∧ signs w = true
  | 0, w, h => by
    have h : w = [] := by simpa [lastL] using h
    rw [h]
    exact ⟨rfl, rfl⟩
  | n + 1, w, h => by
    obtain ⟨v, hv, hw⟩ := List.mem_flatMap.mp h
    obtain ⟨h1, h2⟩ := last_mem n v hv
    have : w = v ++ [99] ∨ w = v ++ [105] ∨ w = v ++ [110] := by simpa using hw
    rcases this with rfl | rfl | rfl <;> exact ⟨by simp [h1], by unfold signs; rw [List.all_append]; exact Bool.and_eq_true_iff.mpr ⟨h2, rfl⟩⟩
theorem words_mem : ∀ n, ∀ w ∈ wordsL n, w.length ≤ n ∧ signs w = true
  | 0, w, h => by
    have h : w = [] := by simpa [wordsL] using h
    rw [h]
    exact ⟨Nat.le_refl _, rfl⟩
  | n + 1, w, h => by
    rcases List.mem_append.mp h with z | z
    · obtain ⟨a, b⟩ := words_mem n w z
      exact ⟨by omega, b⟩
    · obtain ⟨a, b⟩ := last_mem (n + 1) w z
      exact ⟨by omega, b⟩
theorem words_up_to_ok {n : Nat} (hn : n ≤ 4) (S : Sto) : m_words_up_to [.p (.int (n : Int))] S = .ok (.p (.lst ((wordsL n).map P.str))) S := by
  have wl : ∀ i, i ≤ 4 → (wordsL i).length ≤ 200 := by
    intro i hi
    have : i = 0 ∨ i = 1 ∨ i = 2 ∨ i = 3 ∨ i = 4 := by omega
    rcases this with rfl | rfl | rfl | rfl | rfl <;> decide
  unfold m_words_up_to b_words_up_to
  refine ws_mkFe (ρ := [some (.p (.int (n : Int))), none, none, none, none, none]) rfl rfl ?_
  refine ws_seq (ev_par (ev_acons (ev_lstC (ev_acons ev_c ev_anil) (frzs_s fr_p frzs_z) (by simp)) (ev_acons (ev_lst (ev_acons ev_c ev_anil) (frzs_s fr_p frzs_z) (by simp)) ev_anil)) rfl) ?_
  refine ws_seqW (ws_rng (n := n) (fun i ρ T => (∃ a1, ρ = [some (.p (.int (n : Int))), a1, some (.c S.length), some (.p (.lst ((lastL i).map P.str))), none, none]) ∧ T = S ++ [.lst ((wordsL i).map P.str)]) (ev_range1 (ev_var rfl) (by omega)) ⟨⟨none, rfl⟩, rfl⟩ ?_ ?_)
  · rintro i ρ T hi ⟨⟨a1, rfl⟩, rfl⟩
    have hl := last_len i
    have hi3 : 3 ^ i ≤ 3 ^ 3 := Nat.pow_le_pow_right (by decide) (by omega)
    have h27 : 3 ^ 3 = 27 := rfl
    have lc := ev_lc2 (it := itOf (eVar 3)) (vs := [4, 5]) (g := gNm 4) (it1 := itOf (eC (.tup [(.str [99]), (.str [105]), (.str [110])]))) (vs1 := [5]) (g1 := gNm 5) (a := eBin pAdd (eVar 4) (eVar 5)) (ls := lastL i) (en := fun w => P.str w) (us := fun _ => [[99], [105], [110]]) (en1 := fun _ (s : List Nat) => P.str s) (f := fun w s => P.str (w ++ s))
      (ρ := [some (.p (.int (n : Int))), some (.p (.int (i : Int))), some (.c S.length), some (.p (.lst ((lastL i).map P.str))), none, none]) (S := S ++ [.lst ((wordsL i).map P.str)]) (S1 := S ++ [.lst ((wordsL i).map P.str)])
      (ρ1 := fun w => [some (.p (.int (n : Int))), some (.p (.int (i : Int))), some (.c S.length), some (.p (.lst ((lastL i).map P.str))), some (.p (.str w)), none])
      (ρ1' := fun w => [some (.p (.int (n : Int))), some (.p (.int (i : Int))), some (.c S.length), some (.p (.lst ((lastL i).map P.str))), some (.p (.str w)), none])
      (ρ2 := fun w (s : List Nat) => [some (.p (.int (n : Int))), some (.p (.int (i : Int))), some (.c S.length), some (.p (.lst ((lastL i).map P.str))), some (.p (.str w)), some (.p (.str s))])
      (ev_itOf (ev_var rfl) fr_p rfl) (by omega) rfl (fun y hy => ev_gnm rfl) (fun y hy => ev_itOf ev_c fr_p rfl) (fun y hy => by simp) (fun y hy => rfl) (fun y hy z hz => ev_gnm rfl) (fun y hy z hz => by
        have hyl := (last_mem i y hy).1
        have hz1 : z.length = 1 := by
          have : z = [99] ∨ z = [105] ∨ z = [110] := by simpa using hz
          rcases this with rfl | rfl | rfl <;> rfl
        exact ev_bin (ev_var rfl) (ev_var rfl) rfl rfl (op_addS (by omega)))
    have em : (lastL i).flatMap (fun y => ([[99], [105], [110]] : List (List Nat)).map fun s => P.str (y ++ s)) = (lastL (i + 1)).map P.str := by
      show _ = ((lastL i).flatMap fun w => [w ++ [99], w ++ [105], w ++ [110]]).map P.str
      rw [List.map_flatMap]
      rfl
    rw [em] at lc
    have hk : (S ++ [Cell.lst ((wordsL i).map P.str)])[S.length]? = some (.lst ((wordsL i).map P.str)) := cell0
    have hw1 := wl i (by omega)
    have hw2 := last_len (i + 1)
    have h81 : 3 ^ (i + 1) ≤ 3 ^ 4 := Nat.pow_le_pow_right (by decide) (by omega)
    have h81' : 3 ^ 4 = 81 := rfl
    have e2 : (S ++ [Cell.lst ((wordsL i).map P.str)]).set S.length (.lst ((wordsL i).map P.str ++ (lastL (i + 1)).map P.str)) = S ++ [.lst ((wordsL (i + 1)).map P.str)] := by
      have : (wordsL (i + 1)).map P.str = (wordsL i).map P.str ++ (lastL (i + 1)).map P.str := by
        show (wordsL i ++ lastL (i + 1)).map P.str = _
        rw [List.map_append]
      rw [this]
      simp
    have ex := extW hk (ys := (lastL (i + 1)).map P.str) (by rw [List.length_map, List.length_map]; omega)
    rw [e2] at ex
    exact ⟨_, _, ev_gnm rfl, ws_of (ev_seq (ev_asg lc (ev_gnm rfl)) (thn_n (ev_expr (ev_mut (ev_var rfl) (isL_lst hk) (ev_acons (ev_var rfl) ev_anil) ex)))) ⟨_, .inl rfl, ⟨_, rfl⟩, rfl⟩⟩
  · rintro ρ' T ⟨⟨a1, rfl⟩, rfl⟩
    exact ⟨_, rfl, ws_of (ev_ret (ev_var rfl)) endW⟩
theorem nk_key (q : Kd) : nkOf (keyP q) = some (.tup [.text (strOf q.1), .num (if q.2 then 1 else 0)]) := rfl
theorem nk_inj {q r : Kd} (h : nkOf (keyP q) = nkOf (keyP r)) : q = r := by
  rw [nk_key, nk_key] at h
  have h := Option.some.inj h
  injection h with h
  injection h with h1 h2
  injection h2 with h2
  injection h1 with h1
  injection h2 with h2
  obtain ⟨q1, q2⟩ := q
  obtain ⟨r1, r2⟩ := r
  have e1 : q1 = r1 := strOf_inj h1
  have e2 : q2 = r2 := by
    cases q2 <;> cases r2 <;> first | rfl | (simp at h2)
  rw [e1, e2]
theorem nk_d (q : Kd) : nkD (keyP q) = some (.tup [.text (strOf q.1), .num (if q.2 then 1 else 0)]) := by
  unfold nkD
  rw [nk_key]
  rfl
abbrev accK (acc : List (Kd × List Nat)) : List P := acc.map fun z => keyP z.1
abbrev accX (acc : List (Kd × List Nat)) : List P := acc.map fun z => P.str z.2
theorem nAt_acc (q : Kd) : ∀ acc : List (Kd × List Nat), nAt (.tup [.text (strOf q.1), .num (if q.2 then 1 else 0)]) (accK acc) (accX acc) = ((acc.find? fun z => z.1 == q).map fun z => P.str z.2)
  | [] => rfl
  | z :: acc => by
    show (if nkOf (keyP z.1) = some _ then some (P.str z.2) else nAt _ (accK acc) (accX acc)) = _
    by_cases h : z.1 = q
    · rw [if_pos (by rw [h, nk_key]), List.find?_cons, show (z.1 == q) = true by simpa using h]
      rfl
    · rw [if_neg (by rw [← nk_key q]; exact fun e => h (nk_inj e)), List.find?_cons, show (z.1 == q) = false by simpa using h]
      exact nAt_acc q acc
theorem dnPut_acc (q : Kd) (w : List Nat) (acc : List (Kd × List Nat)) : dnPut (.tup [.text (strOf q.1), .num (if q.2 then 1 else 0)]) (keyP q) (.str w) (accK acc) (accX acc) = (accK (Wo.putF (·.1) acc (q, w)), accX (Wo.putF (·.1) acc (q, w))) := by
  unfold dnPut
  rw [nAt_acc]
  unfold Wo.putF
  cases h : acc.find? (fun z => z.1 == q) with
  | none =>
    have hn : ¬ (acc.any fun z => z.1 == q) = true := by
      intro hh
      obtain ⟨z, hz, e⟩ := List.any_eq_true.mp hh
      exact absurd e (by simpa using List.find?_eq_none.mp h z hz)
    show (accK acc ++ [keyP q], accX acc ++ [P.str w]) = _
    rw [if_neg hn]
    simp
  | some z =>
    have hy : (acc.any fun z => z.1 == q) = true := List.any_eq_true.mpr ⟨z, List.mem_of_find?_eq_some h, by simpa using List.find?_some h⟩
    show (accK acc, accX acc) = _
    rw [if_pos hy]
theorem dn_go {k : List Nat} (hk : k ∈ KDS) (h1 : okR (rulesK k) = true) (S : Sto) : ∀ (ws : List (List Nat)) (acc : List (Kd × List Nat)) (a2 : Option Vl), (∀ w ∈ ws, w.length ≤ 4 ∧ signs w = true) →
    dnGo 2 S.length (eFn m_key_of (aCons (eVar 2) (aCons (eVar 0) aNil))) (ws.map P.str) [some (.p (.str k)), none, a2] S (accK acc) (accX acc) = some (accK (ws.foldl (fun acc w => Wo.putF (·.1) acc (keyW k w, w)) acc), accX (ws.foldl (fun acc w => Wo.putF (·.1) acc (keyW k w, w)) acc), S)
  | [], acc, a2, _ => rfl
  | w :: ws, acc, a2, h => by
    obtain ⟨hl, hw⟩ := h w List.mem_cons_self
    have c := key_of_ok hk h1 hw (by omega) S
    have e1 : eFn m_key_of (aCons (eVar 2) (aCons (eVar 0) aNil)) [some (.p (.str k)), none, some (.p (.str w))] S = .ok (.p (keyP (keyW k w))) S := ev_fn (ev_acons (ev_var rfl) (ev_acons (ev_var rfl) ev_anil)) c
    show (match eFn m_key_of (aCons (eVar 2) (aCons (eVar 0) aNil)) [some (.p (.str k)), none, some (.p (.str w))] S with
      | .ok (.p kp) S1 => (match nkD kp with
        | some kk => if S.length ≤ S1.length then dnGo 2 S.length (eFn m_key_of (aCons (eVar 2) (aCons (eVar 0) aNil))) (ws.map P.str) [some (.p (.str k)), none, some (.p (.str w))] (S1.take S.length) (dnPut kk kp (.str w) (accK acc) (accX acc)).1 (dnPut kk kp (.str w) (accK acc) (accX acc)).2 else none
        | none => none)
      | _ => none) = _
    rw [e1]
    dsimp only
    rw [nk_d]
    dsimp only
    rw [if_pos (Nat.le_refl _), dnPut_acc, List.take_length]
    exact dn_go hk h1 S ws _ _ fun v hv => h v (List.mem_cons_of_mem _ hv)
theorem sbk_ok {k : List Nat} (hk : k ∈ KDS) (h1 : okR (rulesK k) = true) (S : Sto) : m_shortest_by_key [.p (.str k)] S = some (accK (firstsL k (wordsL 4)), accX (firstsL k (wordsL 4)), S) := by
  have wl : (wordsL 4).length = 121 := by decide
  have it : itOf (eFn m_words_up_to (aCons (eC (.int 4)) aNil)) [some (.p (.str k)), none, none] S = .ok ((wordsL 4).map P.str) S := ev_itOf (ev_fn (ev_acons ev_c ev_anil) (words_up_to_ok (n := 4) (by decide) S)) fr_p rfl
  show (if ([Vl.p (.str k)] : List Vl).length = 1 then dnRun 1 2 (itOf (eFn m_words_up_to (aCons (eC (.int 4)) aNil))) (eFn m_key_of (aCons (eVar 2) (aCons (eVar 0) aNil))) [some (.p (.str k)), none, none] S else none) = _
  rw [if_pos (show ([Vl.p (.str k)] : List Vl).length = 1 from rfl)]
  unfold dnRun
  show (match itOf (eFn m_words_up_to (aCons (eC (.int 4)) aNil)) [some (.p (.str k)), none, none] S with
    | .ok xs S1 => if xs.length ≤ 50000 ∧ S.length ≤ S1.length ∧ 1 < 3 ∧ 2 < 3 then dnGo 2 S.length (eFn m_key_of (aCons (eVar 2) (aCons (eVar 0) aNil))) xs [some (.p (.str k)), none, none] (S1.take S.length) [] [] else none
    | _ => none) = _
  rw [it]
  dsimp only
  rw [if_pos ⟨by rw [List.length_map, wl]; decide, Nat.le_refl _, by decide, by decide⟩, List.take_length]
  exact dn_go hk h1 S (wordsL 4) [] none (words_mem 4)
theorem all_words_of {k : List Nat} (hk : k ∈ KDS) (h1 : okR (rulesK k) = true) (hl : (firstsL k (wordsL 4)).length ≤ 200) (c1 : ∀ S, m_check_kind [.p (.str k)] S = .ok (.p .non) S) (S : Sto) : m_all_words [.p (.str k)] S = .ok (.p (.tup ((firstsL k (wordsL 4)).map fun z => P.str z.2))) S := by
  have c2 := sbk_ok hk h1
  have ed : eDVals m_shortest_by_key (aCons (eVar 0) aNil) [some (.p (.str k))] S = .ok (.p (.lst ((firstsL k (wordsL 4)).map fun z => P.str z.2))) S := by
    unfold eDVals
    rw [ev_acons (ev_var rfl) ev_anil, bind_ok, c2]
  unfold m_all_words b_all_words
  refine ws_mkFe rfl rfl ?_
  refine ws_seq (ev_expr (ev_fn (ev_acons (ev_var rfl) ev_anil) (c1 _))) ?_
  exact ws_of (ev_ret (ev_call (ev_acons ed ev_anil) (rds_c rfl (rds_nil _)) op_tupL)) end_self
end Law

namespace Wo
open Pl
def doS (n : Nat) (near : List (List Nat)) (c : Nat) (l : List Nat) : List Nat := if c = 110 then othL n l else if c = 99 then closL n near l else insL n near l
def doW (n : Nat) (near : List (List Nat)) (w l : List Nat) : List Nat := w.foldr (doS n near) l
def addW (f : List (List Nat)) (l : List Nat) : List (List Nat) := if f.contains l then f else f ++ [l]
def addsW (f ls : List (List Nat)) : List (List Nat) := ls.foldl addW f
theorem mem_addsW : ∀ {ls f : List (List Nat)} {x : List Nat}, x ∈ addsW f ls ↔ x ∈ f ∨ x ∈ ls
  | [], f, x => by simp [addsW]
  | l :: ls, f, x => by
    have h1 : x ∈ addW f l ↔ x ∈ f ∨ x = l := by
      unfold addW
      split
      · rename_i h
        have h := List.contains_iff_mem.mp h
        exact ⟨.inl, fun z => z.elim id fun e => by rw [e]; exact h⟩
      · simp
    show x ∈ addsW (addW f l) ls ↔ _
    rw [mem_addsW, h1, List.mem_cons, or_assoc]
theorem nd_addsW : ∀ {ls f : List (List Nat)}, f.Nodup → (addsW f ls).Nodup
  | [], f, h => h
  | l :: ls, f, h => by
    refine nd_addsW (ls := ls) ?_
    unfold addW
    split
    · exact h
    · rename_i hc
      rw [List.nodup_append]
      refine ⟨h, by simp, fun a ha b hb => ?_⟩
      have hb : b = l := by simpa using hb
      rw [hb]
      intro e
      rw [e] at ha
      exact hc (List.contains_iff_mem.mpr ha)
theorem len_addsW : ∀ (ls f : List (List Nat)), (addsW f ls).length ≤ f.length + ls.length
  | [], f => Nat.le_refl _
  | l :: ls, f => by
    have h1 : (addW f l).length ≤ f.length + 1 := by
      unfold addW
      split
      · exact Nat.le_succ _
      · simp
    have h2 := len_addsW ls (addW f l)
    show (addsW (addW f l) ls).length ≤ _
    rw [List.length_cons]
    omega
def madeL (n : Nat) (near : List (List Nat)) (l : List Nat) : List (List Nat) := addsW [] (W14.map fun w => doW n near w l)
theorem W14_eq : W14 = [[], [99], [105], [110], [99, 105], [99, 110], [105, 99], [105, 110], [99, 105, 99], [99, 105, 110], [105, 99, 105], [105, 99, 110], [99, 105, 99, 110], [105, 99, 105, 110]] := by decide +kernel
theorem W14_mem : ∀ w ∈ W14, w.length ≤ 4 ∧ signs w = true := by
  rw [W14_eq]
  decide
theorem madeL_len (n : Nat) (near : List (List Nat)) (l : List Nat) : (madeL n near l).length ≤ 14 := by
  have h := len_addsW (W14.map fun w => doW n near w l) []
  have : W14.length = 14 := by rw [W14_eq]; rfl
  rw [List.length_map, this] at h
  have h : (madeL n near l).length ≤ 0 + 14 := h
  omega
end Wo
namespace Law
open PySem L2 Mir Pl Wo
theorem bits_memW {n b : Nat} (h : b < 2 ^ n) : bitsN (mem_ n b) = b := by
  apply Nat.eq_of_testBit_eq
  intro i
  rw [bits_test (lot_mem n b).nd, Bool.eq_iff_iff, List.contains_iff_mem]
  unfold mem_
  rw [List.mem_filter, List.mem_range]
  constructor
  · exact fun z => z.2
  · intro z
    refine ⟨?_, z⟩
    cases Nat.lt_or_ge i n with
    | inl h1 => exact h1
    | inr h1 =>
      rw [Nat.testBit_lt_two_pow (Nat.lt_of_lt_of_le h (Nat.pow_le_pow_right (by decide) h1))] at z
      cases z
theorem bits_injW {n : Nat} {l m : List Nat} (hl : Lot n l) (hm : Lot n m) (e : bitsN l = bitsN m) : l = m := by
  have a := mem_bits hl.srt hl.lt
  have b := mem_bits hm.srt hm.lt
  rw [← a, ← b, e]
theorem doS_lot {n : Nat} {near : List (List Nat)} {c : Nat} {l : List Nat} : Lot n (doS n near c l) := by
  unfold doS
  split
  · exact lot_filter n _
  · split
    · exact lot_filter n _
    · exact lot_filter n _
theorem doW_lot {n : Nat} {near : List (List Nat)} {l : List Nat} (h : Lot n l) : ∀ w : List Nat, Lot n (doW n near w l)
  | [] => h
  | c :: w => doS_lot
section
variable {n : Nat} {order near : List (List Nat)} (h : Spc n order near)
include h
theorem made_bits_ok {w l : List Nat} (hw : signs w = true) (hwl : w.length ≤ 900) (hl : Lot n l) (S : Sto) : m_made_bits [.p (.str w), .p (.lst (nums (bitsL near))), .p (.int ((bitsN l : Nat) : Int))] S = .ok (.p (.int ((bitsN (doW n near w l) : Nat) : Int))) S := by
  have hle := h.le
  have en : (bitsL near).length = n := by unfold bitsL; rw [List.length_map, h.near.len]
  have hp : 0 < 2 ^ n := Nat.pow_pos (by decide)
  unfold m_made_bits b_made_bits
  refine ws_mkFe (ρ := [some (.p (.str w)), some (.p (.lst (nums (bitsL near)))), some (.p (.int ((bitsN l : Nat) : Int))), none]) rfl rfl ?_
  have rv : pRev (.str w) = some (.str w.reverse) := by
    show (if w.length ≤ 100000 then some (P.str w.reverse) else none) = _
    rw [if_pos (by omega)]
  refine ws_seqW (ws_forM (us := w.reverse) (en := fun c => P.str [c]) (fun i ρ T => (∃ a3, ρ = [some (.p (.str w)), some (.p (.lst (nums (bitsL near)))), some (.p (.int ((bitsN ((w.reverse.take i).foldl (fun l c => doS n near c l) l) : Nat) : Int))), a3]) ∧ Lot n ((w.reverse.take i).foldl (fun l c => doS n near c l) l) ∧ T = S) (ev_itOf (ev_un (ev_var rfl) rfl rv) fr_p rfl) ⟨⟨_, rfl⟩, hl, rfl⟩ ?_ ?_)
  · rintro i c ρ T hi ⟨⟨a3, rfl⟩, hL, rfl⟩
    have hc : c = 99 ∨ c = 105 ∨ c = 110 := signs_of hw c (List.mem_reverse.mp (List.mem_of_getElem? hi))
    have e : (w.reverse.take (i + 1)).foldl (fun l c => doS n near c l) l = doS n near c ((w.reverse.take i).foldl (fun l c => doS n near c l) l) := fold_take (fun l c => doS n near c l) hi
    rw [e]
    generalize (w.reverse.take i).foldl (fun l c => doS n near c l) l = m at hL
    have h1 : asc [c] = true := asc_of.mpr fun d hd => by
      have hd : d = c := by simpa using hd
      rw [hd]; omega
    refine ⟨_, _, ev_gnm rfl, ?_⟩
    rcases hc with rfl | rfl | rfl
    · have t : pEq (.str [99]) (.str [110]) = some (.bl false) := rfl
      have t2 : pEq (.str [99]) (.str [99]) = some (.bl true) := rfl
      have c3 := closure_of_ok (B := bitsN m) h.near.len (by omega)
      rw [clos_bits h hL] at c3
      exact ws_of (ev_sif (ev_tval (ev_bin (ev_var rfl) ev_c rfl rfl t)) (ifK_f (ev_asg (ev_if (ev_tval (ev_bin (ev_var rfl) ev_c rfl rfl t2)) (ifK_t (ev_fn (ev_acons (ev_var rfl) (ev_acons (ev_var rfl) ev_anil)) (c3 _)))) (ev_gnm rfl)))) ⟨_, .inl rfl, ⟨_, rfl⟩, doS_lot, rfl⟩
    · have t : pEq (.str [105]) (.str [110]) = some (.bl false) := rfl
      have t2 : pEq (.str [105]) (.str [99]) = some (.bl false) := rfl
      have c3 := inside_of_ok (B := bitsN m) h.near.len (by omega)
      rw [ins_bits h hL] at c3
      exact ws_of (ev_sif (ev_tval (ev_bin (ev_var rfl) ev_c rfl rfl t)) (ifK_f (ev_asg (ev_if (ev_tval (ev_bin (ev_var rfl) ev_c rfl rfl t2)) (ifK_f (ev_fn (ev_acons (ev_var rfl) (ev_acons (ev_var rfl) ev_anil)) (c3 _)))) (ev_gnm rfl)))) ⟨_, .inl rfl, ⟨_, rfl⟩, doS_lot, rfl⟩
    · have t : pEq (.str [110]) (.str [110]) = some (.bl true) := rfl
      have c3 := all_bits_ok (l := bitsL near) (by omega)
      rw [en] at c3
      have eb : bitsN (othL n m) = 2 ^ n - 1 - ((2 ^ n - 1) &&& bitsN m) := by
        rw [← othL_bits hL, bits_memW (by omega)]
      have ed : doS n near 110 m = othL n m := by unfold doS; rw [if_pos rfl]
      rw [ed, eb]
      exact ws_of (ev_sif (ev_tval (ev_bin (ev_var rfl) ev_c rfl rfl t)) (ifK_t (ev_asg (ev_bin (ev_fn (ev_acons (ev_var rfl) ev_anil) (c3 _)) (ev_un (ev_var rfl) rfl op_inv) rfl rfl op_bandnot) (ev_gnm rfl)))) ⟨_, .inl rfl, ⟨_, rfl⟩, lot_filter n _, rfl⟩
  · rintro ρ' T ⟨⟨a3, rfl⟩, hL, rfl⟩
    have e : (w.reverse.take w.reverse.length).foldl (fun l c => doS n near c l) l = doW n near w l := by
      rw [List.take_length, List.foldl_reverse]
      rfl
    rw [e]
    exact ⟨_, rfl, ws_of (ev_ret (ev_var rfl)) end_self⟩
omit h in
theorem keq_bits {l : List Nat} {acc : List (List Nat)} (hl : Lot n l) (ha : ∀ m ∈ acc, Lot n m) : ((acc.map fun m => P.int ((bitsN m : Nat) : Int)).any fun a => keq a (.int ((bitsN l : Nat) : Int))) = acc.contains l := by
  rw [Bool.eq_iff_iff, List.any_eq_true, List.contains_iff_mem]
  constructor
  · rintro ⟨a, ha1, e⟩
    obtain ⟨m, hm, rfl⟩ := List.mem_map.mp ha1
    have e : (((bitsN m : Nat) : Int) == ((bitsN l : Nat) : Int)) = true := e
    have e : bitsN m = bitsN l := by have := beq_iff_eq.mp e; omega
    rw [← bits_injW (ha m hm) hl e]
    exact hm
  · intro hm
    refine ⟨_, List.mem_map.mpr ⟨l, hm, rfl⟩, ?_⟩
    show (((bitsN l : Nat) : Int) == ((bitsN l : Nat) : Int)) = true
    simp
abbrev bsW (bs : List (List Nat)) : List P := bs.map fun b => P.int ((bitsN b : Nat) : Int)
theorem made_of_ok {ws : List (List Nat)} {l : List Nat} (hws : ∀ w ∈ ws, w.length ≤ 900 ∧ signs w = true) (hwl : ws.length ≤ 1000) (hl : Lot n l) (S : Sto) : m_made_of [.p (.lst (nums (bitsL near))), .p (.int ((bitsN l : Nat) : Int)), .p (.tup (ws.map P.str))] S = .ok (.p (.lst (bsW (addsW [] (ws.map fun w => doW n near w l))))) S := by
  unfold m_made_of b_made_of
  refine ws_mkFe (ρ := [some (.p (.lst (nums (bitsL near)))), some (.p (.int ((bitsN l : Nat) : Int))), some (.p (.tup (ws.map P.str))), none, none]) rfl rfl ?_
  refine ws_seq (ev_asg (show eDctC _ S = .ok (.c S.length) (S ++ [.dct [] []]) from rfl) (ev_gnm rfl)) ?_
  refine ws_seqW (ws_forM (us := ws) (en := P.str) (fun i ρ T => (∃ a4, ρ = [some (.p (.lst (nums (bitsL near)))), some (.p (.int ((bitsN l : Nat) : Int))), some (.p (.tup (ws.map P.str))), some (.c S.length), a4]) ∧ ∃ xs, T = S ++ [.dct (bsW (addsW [] ((ws.map fun w => doW n near w l).take i))) xs]) (ev_itOf (ev_var rfl) fr_p rfl) ⟨⟨_, rfl⟩, [], rfl⟩ ?_ ?_)
  · rintro i w ρ T hi ⟨⟨a4, rfl⟩, xs, rfl⟩
    obtain ⟨hw1, hw2⟩ := hws w (List.mem_of_getElem? hi)
    have c := made_bits_ok h hw2 hw1 hl
    have hm : (ws.map fun w => doW n near w l)[i]? = some (doW n near w l) := by rw [List.getElem?_map, hi]; rfl
    have et : addsW [] ((ws.map fun w => doW n near w l).take (i + 1)) = addW (addsW [] ((ws.map fun w => doW n near w l).take i)) (doW n near w l) := fold_take addW hm
    have hacc : ∀ m ∈ addsW [] ((ws.map fun w => doW n near w l).take i), Lot n m := fun m hm => by
      rcases mem_addsW.mp hm with z | z
      · cases z
      · obtain ⟨v, _, rfl⟩ := List.mem_map.mp (List.mem_of_mem_take z)
        exact doW_lot hl v
    have hln : (addsW [] ((ws.map fun w => doW n near w l).take i)).length ≤ 1000 := by
      have h1 := len_addsW ((ws.map fun w => doW n near w l).take i) []
      have h2 : ((ws.map fun w => doW n near w l).take i).length ≤ ws.length := by rw [List.length_take, List.length_map]; omega
      simp only [List.length_nil] at h1
      omega
    rw [et]
    generalize addsW [] ((ws.map fun w => doW n near w l).take i) = acc at hacc hln
    have hk : (S ++ [Cell.dct (bsW acc) xs])[S.length]? = some (.dct (bsW acc) xs) := cell0
    have ek : dPutK (.int ((bitsN (doW n near w l) : Nat) : Int)) (bsW acc) = bsW (addW acc (doW n near w l)) := by
      unfold dPutK
      rw [keq_bits (doW_lot hl w) hacc]
      unfold addW
      split
      · rfl
      · simp
    have put : sPutK (eC (.bl true)) (eVar 3) (eFn m_made_bits (aCons (eVar 4) (aCons (eVar 0) (aCons (eVar 1) aNil)))) [some (.p (.lst (nums (bitsL near)))), some (.p (.int ((bitsN l : Nat) : Int))), some (.p (.tup (ws.map P.str))), some (.c S.length), some (.p (.str w))] (S ++ [.dct (bsW acc) xs]) = .ok (.nx [some (.p (.lst (nums (bitsL near)))), some (.p (.int ((bitsN l : Nat) : Int))), some (.p (.tup (ws.map P.str))), some (.c S.length), some (.p (.str w))]) ((S ++ [Cell.dct (bsW acc) xs]).set S.length (Cell.dct (bsW (addW acc (doW n near w l))) (dPutV (.int ((bitsN (doW n near w l) : Nat) : Int)) (.bl true) (bsW acc) xs))) := by
      have e3 : eFn m_made_bits (aCons (eVar 4) (aCons (eVar 0) (aCons (eVar 1) aNil))) [some (.p (.lst (nums (bitsL near)))), some (.p (.int ((bitsN l : Nat) : Int))), some (.p (.tup (ws.map P.str))), some (.c S.length), some (.p (.str w))] (S ++ [.dct (bsW acc) xs]) = _ := ev_fn (ev_acons (ev_var rfl) (ev_acons (ev_var rfl) (ev_acons (ev_var rfl) ev_anil))) (c _)
      unfold sPutK
      rw [ev_c, go_ok, ev_var rfl, go_ok, e3, go_ok, frz_p, go_ok]
      unfold dPutS
      dsimp only
      rw [hk]
      dsimp only
      rw [if_pos ⟨rfl, by rw [List.length_map]; omega⟩, ek]
    have es : ∀ c' : Cell, (S ++ [Cell.dct (bsW acc) xs]).set S.length c' = S ++ [c'] := fun c' => by simp
    rw [es] at put
    exact ⟨_, _, ev_gnm rfl, ws_of put ⟨_, .inl rfl, ⟨_, rfl⟩, _, rfl⟩⟩
  · rintro ρ' T ⟨⟨a4, rfl⟩, xs, rfl⟩
    rw [show (ws.map fun w => doW n near w l).take ws.length = ws.map fun w => doW n near w l by rw [List.take_of_length_le]; rw [List.length_map]; exact Nat.le_refl _]
    have rdx : rd (S ++ [Cell.dct (bsW (addsW [] (ws.map fun w => doW n near w l))) xs]) (.c S.length) = some (.dct (bsW (addsW [] (ws.map fun w => doW n near w l))) xs) := by
      unfold rd
      dsimp only
      rw [cell0]
    refine ⟨_, rfl, ws_of (ev_ret (ev_call (ev_acons (ev_var rfl) ev_anil) (rds_c rdx (rds_nil _)) (show pListK [.dct (bsW (addsW [] (ws.map fun w => doW n near w l))) xs] = some (.lst (bsW (addsW [] (ws.map fun w => doW n near w l)))) from rfl))) ?_⟩
    exact end_app
end
end Law

namespace Law
open PySem L2 Mir Pl Wo
def dueP (order : List (List Nat)) (bs : List (List Nat)) : P := .tup (((bs.map (pick order)).mergeSort leR).map fun t => P.tup (txts t))
abbrev rowsR (order bs : List (List Nat)) : List (List (List Nat)) := (bs.map (pick order)).mergeSort leR
theorem mem_rows {order bs : List (List Nat)} {t : List (List Nat)} : t ∈ rowsR order bs ↔ ∃ b ∈ bs, pick order b = t := by
  unfold rowsR
  rw [(List.mergeSort_perm _ _).mem_iff, List.mem_map]
theorem rows_len {order bs : List (List Nat)} : (rowsR order bs).length = bs.length := by
  unfold rowsR
  rw [List.length_mergeSort, List.length_map]
theorem isTU_set {order : List (List Nat)} {l : List Nat} : isTU (setP order l) = true := by
  show (txts (pick order l)).all isStrP = true
  unfold txts
  rw [List.all_eq_true]
  intro y hy
  obtain ⟨t, _, rfl⟩ := List.mem_map.mp hy
  rfl
theorem rows_all {n : Nat} {order near : List (List Nat)} (h : Spc n order near) {bs : List (List Nat)} (hb : ∀ b ∈ bs, Lot n b) : pSortedU [.lst (bs.map (setP order))] = some (.lst (((bs.map (pick order)).mergeSort leR).map fun t => P.tup (txts t))) := by
  unfold pSortedU
  dsimp only
  rw [if_pos]
  · exact congrArg (fun z => some (P.lst z)) (sortR_eq (pick order) bs)
  · rw [List.all_eq_true]
    intro p hpm
    obtain ⟨b, hbm, rfl⟩ := List.mem_map.mp hpm
    rw [h.dat (hb b hbm) 59, isTU_set]
    rfl
section
variable {n : Nat} {order near : List (List Nat)} (h : Spc n order near)
include h
theorem sorted_setsU_ok {bs : List (List Nat)} (hb : ∀ b ∈ bs, Lot n b) (hl : bs.length ≤ 1000) (S : Sto) : m_sorted_sets [.p (spcP n order near), .p (.lst (bs.map fun b => P.int ((bitsN b : Nat) : Int)))] S = .ok (.p (dueP order bs)) S := by
  have hle := h.le
  have lc : eLc (itOf (eVar 1)) [2] (gNm 2) tsYes (eFn m_names_of (aCons (eVar 0) (aCons (eVar 2) aNil))) [some (.p (spcP n order near)), some (.p (.lst (bs.map fun b => P.int ((bitsN b : Nat) : Int)))), none] S = .ok (.p (.lst (bs.map (setP order)))) S := by
    refine ev_lcm (ys := bs) (en := fun b => P.int ((bitsN b : Nat) : Int)) (ρ1 := fun b => [some (.p (spcP n order near)), some (.p (.lst (bs.map fun b => P.int ((bitsN b : Nat) : Int)))), some (.p (.int ((bitsN b : Nat) : Int)))]) (ev_itOf (ev_var rfl) fr_p rfl) (by omega) rfl (fun y _ => ev_gnm rfl) fun y hy => ?_
    have hy := hb y hy
    have c := names_of_ok h hy.bits
    rw [mem_bits hy.srt hy.lt] at c
    exact ev_fn (ev_acons (ev_var rfl) (ev_acons (ev_var rfl) ev_anil)) (c _)
  unfold m_sorted_sets b_sorted_sets
  refine ws_mkFe rfl rfl ?_
  exact ws_of (ev_ret (ev_call (ev_acons (ev_call (ev_acons lc ev_anil) (rds_c rfl (rds_nil _)) (rows_all h hb)) ev_anil) (rds_c rfl (rds_nil _)) op_tupL)) end_self
omit h in
theorem madeL_lot {l : List Nat} (hl : Lot n l) : ∀ m ∈ madeL n near l, Lot n m := fun m hm => by
  rcases mem_addsW.mp hm with z | z
  · cases z
  · obtain ⟨w, _, rfl⟩ := List.mem_map.mp z
    exact doW_lot hl w
omit h in
theorem all_words_all (S : Sto) : m_all_words [.p (.str [97, 108, 108])] S = .ok (.p (.tup (W14.map P.str))) S := by
  have e := all_words_of (k := [97, 108, 108]) (by decide) (by decide) (by
    have : (firstsL [97, 108, 108] (wordsL 4)).length = W14.length := by unfold W14; rw [List.length_map]
    rw [this, W14_eq]
    decide) (check_kind_ok (by decide)) S
  rw [e]
  unfold W14
  rw [List.map_map]
  rfl
theorem made_ok {l : List Nat} (hl : Lot n l) (S : Sto) : m_made [.p (spcP n order near), .p (setP order l)] S = .ok (.p (dueP order (madeL n near l))) S := by
  have c1 := check_space_ok n order near
  have c2 := check_set_ok h hl
  have c3 := bits_set_ok h hl
  have c4 := made_of_ok h (ws := W14) (l := l) (fun w hw => ⟨Nat.le_trans (W14_mem w hw).1 (by decide), (W14_mem w hw).2⟩) (by rw [W14_eq]; decide) hl
  have c5 := sorted_setsU_ok h (madeL_lot (n := n) (near := near) hl) (Nat.le_trans (madeL_len n near l) (by decide))
  unfold m_made b_made
  refine ws_mkFe rfl rfl ?_
  refine ws_seq (ev_expr (ev_fn (ev_acons (ev_var rfl) ev_anil) (c1 _))) ?_
  refine ws_seq (ev_expr (ev_fn (ev_acons (ev_var rfl) (ev_acons (ev_var rfl) ev_anil)) (c2 _))) ?_
  exact ws_of (ev_ret (ev_fn (ev_acons (ev_var rfl) (ev_acons (ev_fn (ev_acons (ev_fld (ev_var rfl) (fldn_seen n order near _)) (ev_acons (ev_fn (ev_acons (ev_fld (ev_var rfl) (fldn_order n order near _)) (ev_acons (ev_var rfl) ev_anil)) (c3 _)) (ev_acons (ev_fn (ev_acons ev_c ev_anil) (all_words_all _)) ev_anil))) (c4 _)) ev_anil)) (c5 _))) end_self
end
end Law

namespace Pl
open Law Wo
section
variable {n : Nat} {near : List (List Nat)} (hN : Near n near)
include hN
theorem clos_mono {l m : List Nat} (h : ∀ e ∈ l, e ∈ m) : ∀ e ∈ closL n near l, e ∈ closL n near m := fun e he => by
  obtain ⟨h1, f, hf, hfl⟩ := mem_clos.mp he
  exact mem_clos.mpr ⟨h1, f, hf, h f hfl⟩
theorem ins_mono {l m : List Nat} (h : ∀ e ∈ l, e ∈ m) : ∀ e ∈ insL n near l, e ∈ insL n near m := fun e he => by
  obtain ⟨h1, h2⟩ := mem_ins.mp he
  exact mem_ins.mpr ⟨h1, fun f hf => h f (h2 f hf)⟩
theorem cici {l : List Nat} : closL n near (insL n near (closL n near (insL n near l))) = closL n near (insL n near l) := lot_ext closLot closLot fun i hi => by
  constructor
  · intro z
    have := clos_mono hN (ins_sub hN (l := closL n near (insL n near l))) i z
    rw [clos_clos hN] at this
    exact this
  · intro z
    refine clos_mono hN (fun e he => ?_) i z
    have h1 : ∀ e ∈ insL n near l, e ∈ closL n near (insL n near l) := sub_clos hN insLot
    have h2 := ins_mono hN h1 e
    rw [ins_ins hN] at h2
    exact h2 he
theorem ocl (m : List Nat) : othL n (closL n near m) = insL n near (othL n m) := lot_ext othLot insLot fun i hi => by
  rw [mem_oth, mem_ins, mem_clos]
  constructor
  · rintro ⟨_, z⟩
    refine ⟨hi, fun e he => mem_oth.mpr ⟨hN.lt i hi e he, fun q => z ⟨hi, e, he, q⟩⟩⟩
  · rintro ⟨_, z⟩
    refine ⟨hi, fun ⟨_, e, he, q⟩ => (mem_oth.mp (z e he)).2 q⟩
theorem oin (m : List Nat) : othL n (insL n near m) = closL n near (othL n m) := lot_ext othLot closLot fun i hi => by
  rw [mem_oth, mem_clos, mem_ins]
  constructor
  · rintro ⟨_, z⟩
    refine ⟨hi, Classical.byContradiction fun q => z ⟨hi, fun e he => Classical.byContradiction fun w => q ⟨e, he, mem_oth.mpr ⟨hN.lt i hi e he, w⟩⟩⟩⟩
  · rintro ⟨_, e, he, q⟩
    exact ⟨hi, fun ⟨_, z⟩ => (mem_oth.mp q).2 (z e he)⟩
end
theorem dw_c {n : Nat} {near : List (List Nat)} {w l : List Nat} : doW n near (99 :: w) l = closL n near (doW n near w l) := by
  show doS n near 99 (doW n near w l) = _
  unfold doS
  rw [if_neg (by decide), if_pos rfl]
theorem dw_i {n : Nat} {near : List (List Nat)} {w l : List Nat} : doW n near (105 :: w) l = insL n near (doW n near w l) := by
  show doS n near 105 (doW n near w l) = _
  unfold doS
  rw [if_neg (by decide), if_neg (by decide)]
theorem dw_n {n : Nat} {near : List (List Nat)} {w l : List Nat} : doW n near (110 :: w) l = othL n (doW n near w l) := by
  show doS n near 110 (doW n near w l) = _
  unfold doS
  rw [if_pos rfl]
theorem dw_0 {n : Nat} {near : List (List Nat)} {l : List Nat} : doW n near [] l = l := rfl
section
variable {n : Nat} {near : List (List Nat)} (hN : Near n near) {l : List Nat}
include hN
theorem W14_clos : ∀ w ∈ W14, ∃ v ∈ W14, closL n near (doW n near w l) = doW n near v l := by
  rw [W14_eq]
  intro w hw
  have hw : w = [] ∨ w = [99] ∨ w = [105] ∨ w = [110] ∨ w = [99, 105] ∨ w = [99, 110] ∨ w = [105, 99] ∨ w = [105, 110] ∨ w = [99, 105, 99] ∨ w = [99, 105, 110] ∨ w = [105, 99, 105] ∨ w = [105, 99, 110] ∨ w = [99, 105, 99, 110] ∨ w = [105, 99, 105, 110] := by simpa using hw
  rcases hw with rfl | rfl | rfl | rfl | rfl | rfl | rfl | rfl | rfl | rfl | rfl | rfl | rfl | rfl
  · exact ⟨[99], by decide, by simp only [dw_c, dw_0]⟩
  · exact ⟨[99], by decide, by simp only [dw_c, dw_0, clos_clos hN]⟩
  · exact ⟨[99, 105], by decide, by simp only [dw_c, dw_i, dw_0]⟩
  · exact ⟨[99, 110], by decide, by simp only [dw_c, dw_n, dw_0]⟩
  · exact ⟨[99, 105], by decide, by simp only [dw_c, dw_i, dw_0, clos_clos hN]⟩
  · exact ⟨[99, 110], by decide, by simp only [dw_c, dw_n, dw_0, clos_clos hN]⟩
  · exact ⟨[99, 105, 99], by decide, by simp only [dw_c, dw_i, dw_0]⟩
  · exact ⟨[99, 105, 110], by decide, by simp only [dw_c, dw_i, dw_n, dw_0]⟩
  · exact ⟨[99, 105, 99], by decide, by simp only [dw_c, dw_i, dw_0, clos_clos hN]⟩
  · exact ⟨[99, 105, 110], by decide, by simp only [dw_c, dw_i, dw_n, dw_0, clos_clos hN]⟩
  · exact ⟨[99, 105], by decide, by simp only [dw_c, dw_i, dw_0, cici hN]⟩
  · exact ⟨[99, 105, 99, 110], by decide, by simp only [dw_c, dw_i, dw_n, dw_0]⟩
  · exact ⟨[99, 105, 99, 110], by decide, by simp only [dw_c, dw_i, dw_n, dw_0, clos_clos hN]⟩
  · exact ⟨[99, 105, 110], by decide, by simp only [dw_c, dw_i, dw_n, dw_0, cici hN]⟩
theorem W14_oth (hl : Lot n l) : ∀ w ∈ W14, ∃ v ∈ W14, othL n (doW n near w l) = doW n near v l := by
  rw [W14_eq]
  have oo := oth_oth hl
  intro w hw
  have hw : w = [] ∨ w = [99] ∨ w = [105] ∨ w = [110] ∨ w = [99, 105] ∨ w = [99, 110] ∨ w = [105, 99] ∨ w = [105, 110] ∨ w = [99, 105, 99] ∨ w = [99, 105, 110] ∨ w = [105, 99, 105] ∨ w = [105, 99, 110] ∨ w = [99, 105, 99, 110] ∨ w = [105, 99, 105, 110] := by simpa using hw
  rcases hw with rfl | rfl | rfl | rfl | rfl | rfl | rfl | rfl | rfl | rfl | rfl | rfl | rfl | rfl
  · exact ⟨[110], by decide, by simp only [dw_n, dw_0]⟩
  · exact ⟨[105, 110], by decide, by simp only [dw_c, dw_i, dw_n, dw_0, ocl hN, oin hN]⟩
  · exact ⟨[99, 110], by decide, by simp only [dw_c, dw_i, dw_n, dw_0, ocl hN, oin hN]⟩
  · exact ⟨[], by decide, by simp only [dw_n, dw_0, oo]⟩
  · exact ⟨[105, 99, 110], by decide, by simp only [dw_c, dw_i, dw_n, dw_0, ocl hN, oin hN]⟩
  · exact ⟨[105], by decide, by simp only [dw_c, dw_i, dw_n, dw_0, ocl hN, oin hN, oo]⟩
  · exact ⟨[99, 105, 110], by decide, by simp only [dw_c, dw_i, dw_n, dw_0, ocl hN, oin hN]⟩
  · exact ⟨[99], by decide, by simp only [dw_c, dw_i, dw_n, dw_0, ocl hN, oin hN, oo]⟩
  · exact ⟨[105, 99, 105, 110], by decide, by simp only [dw_c, dw_i, dw_n, dw_0, ocl hN, oin hN]⟩
  · exact ⟨[105, 99], by decide, by simp only [dw_c, dw_i, dw_n, dw_0, ocl hN, oin hN, oo]⟩
  · exact ⟨[99, 105, 99, 110], by decide, by simp only [dw_c, dw_i, dw_n, dw_0, ocl hN, oin hN]⟩
  · exact ⟨[99, 105], by decide, by simp only [dw_c, dw_i, dw_n, dw_0, ocl hN, oin hN, oo]⟩
  · exact ⟨[105, 99, 105], by decide, by simp only [dw_c, dw_i, dw_n, dw_0, ocl hN, oin hN, oo]⟩
  · exact ⟨[99, 105, 99], by decide, by simp only [dw_c, dw_i, dw_n, dw_0, ocl hN, oin hN, oo]⟩
end
inductive Rch (n : Nat) (near : List (List Nat)) (l : List Nat) : List Nat → Prop
  | base : Rch n near l l
  | clos {m : List Nat} : Rch n near l m → Rch n near l (closL n near m)
  | oth {m : List Nat} : Rch n near l m → Rch n near l (othL n m)
theorem mem_madeL {n : Nat} {near : List (List Nat)} {l m : List Nat} : m ∈ madeL n near l ↔ ∃ w ∈ W14, doW n near w l = m := by
  unfold madeL
  rw [mem_addsW]
  constructor
  · rintro (z | z)
    · cases z
    · exact List.mem_map.mp z
  · exact fun z => .inr (List.mem_map.mpr z)
section
variable {n : Nat} {near : List (List Nat)} (hN : Near n near) {l : List Nat} (hl : Lot n l)
include hN hl
theorem made_base : l ∈ madeL n near l := mem_madeL.mpr ⟨[], by rw [W14_eq]; decide, rfl⟩
theorem made_clos {m : List Nat} (h : m ∈ madeL n near l) : closL n near m ∈ madeL n near l := by
  obtain ⟨w, hw, rfl⟩ := mem_madeL.mp h
  obtain ⟨v, hv, e⟩ := W14_clos hN (l := l) w hw
  exact mem_madeL.mpr ⟨v, hv, e.symm⟩
theorem made_oth {m : List Nat} (h : m ∈ madeL n near l) : othL n m ∈ madeL n near l := by
  obtain ⟨w, hw, rfl⟩ := mem_madeL.mp h
  obtain ⟨v, hv, e⟩ := W14_oth hN hl w hw
  exact mem_madeL.mpr ⟨v, hv, e.symm⟩
theorem made_ins {m : List Nat} (hm : Lot n m) (h : m ∈ madeL n near l) : insL n near m ∈ madeL n near l := by
  have e : insL n near m = othL n (closL n near (othL n m)) := by rw [ocl hN, oth_oth hm]
  rw [e]
  exact made_oth hN hl (made_clos hN hl (made_oth hN hl h))
theorem rch_made {m : List Nat} (h : Rch n near l m) : m ∈ madeL n near l := by
  induction h with
  | base => exact made_base hN hl
  | clos _ ih => exact made_clos hN hl ih
  | oth _ ih => exact made_oth hN hl ih
omit hN hl in
theorem Rch.lot (hl : Lot n l) {m : List Nat} (h : Rch n near l m) : Lot n m := by
  cases h with
  | base => exact hl
  | clos _ => exact closLot
  | oth _ => exact othLot
theorem word_rch : ∀ w : List Nat, Rch n near l (doW n near w l)
  | [] => .base
  | c :: w => by
    have ih := word_rch w
    show Rch n near l (doS n near c (doW n near w l))
    generalize doW n near w l = m at ih
    unfold doS
    split
    · exact .oth ih
    · split
      · exact .clos ih
      · have e : insL n near m = othL n (closL n near (othL n m)) := by rw [ocl hN, oth_oth (ih.lot hl)]
        rw [e]
        exact .oth (.clos (.oth ih))
theorem made_iff {m : List Nat} : m ∈ madeL n near l ↔ Rch n near l m := by
  constructor
  · intro h
    obtain ⟨w, _, rfl⟩ := mem_madeL.mp h
    exact word_rch hN hl w
  · exact rch_made hN hl
omit hN hl in
theorem Rch.trans {m p : List Nat} (h : Rch n near l m) (h2 : Rch n near m p) : Rch n near l p := by
  induction h2 with
  | base => exact h
  | clos _ ih => exact .clos ih
  | oth _ ih => exact .oth ih
omit hN hl in
theorem made_nd : (madeL n near l).Nodup := nd_addsW List.nodup_nil
theorem sub_lenL : ∀ {a b : List (List Nat)}, a.Nodup → (∀ x ∈ a, x ∈ b) → a.length ≤ b.length
  | [], b, _, _ => Nat.zero_le _
  | x :: a, b, h, hs => by
    rw [List.nodup_cons] at h
    have hx := hs x List.mem_cons_self
    have ih := sub_lenL (a := a) (b := b.erase x) h.2 fun y hy => by
      have hne : y ≠ x := fun e => h.1 (e ▸ hy)
      exact (List.mem_erase_of_ne hne).mpr (hs y (List.mem_cons_of_mem _ hy))
    rw [List.length_erase_of_mem hx] at ih
    have := List.length_pos_of_mem hx
    rw [List.length_cons]
    omega
omit hN hl in
theorem perm_of {a b : List (List Nat)} (ha : a.Nodup) (hb : b.Nodup) (h : ∀ x, x ∈ a ↔ x ∈ b) : a.Perm b := (List.perm_ext_iff_of_nodup ha hb).mpr h
theorem made_even (h0 : 0 < n) : ∃ j, 1 ≤ j ∧ j ≤ 7 ∧ (madeL n near l).length = 2 * j := by
  have h14 := madeL_len n near l
  have nd : (madeL n near l).Nodup := made_nd
  have lots : ∀ m ∈ madeL n near l, Lot n m := fun m hm => ((made_iff hN hl).mp hm).lot hl
  have cnt : ∀ b : Bool, ((madeL n near l).filter fun m => m.contains 0 == b).length ≤ ((madeL n near l).filter fun m => m.contains 0 == !b).length := fun b => by
    rw [← List.length_map (f := othL n)]
    refine sub_lenL (hN := hN) (hl := hl) ?_ fun x hx => ?_
    · rw [List.nodup_iff_pairwise_ne, List.pairwise_map]
      refine ((List.nodup_iff_pairwise_ne.mp nd).filter _).imp_of_mem fun {a b} ha hb hab e => hab ?_
      have h1 := congrArg (othL n) e
      rw [oth_oth (lots a (List.mem_filter.mp ha).1), oth_oth (lots b (List.mem_filter.mp hb).1)] at h1
      exact h1
    · obtain ⟨m, hm, rfl⟩ := List.mem_map.mp hx
      obtain ⟨hm1, hm2⟩ := List.mem_filter.mp hm
      refine List.mem_filter.mpr ⟨made_oth hN hl hm1, ?_⟩
      have e : (othL n m).contains 0 = !(m.contains 0) := by
        rw [Bool.eq_iff_iff, List.contains_iff_mem, mem_oth]
        simp [h0]
      rw [e]
      have := beq_iff_eq.mp hm2
      rw [this]
      simp
  have e1 := cnt true
  have e2 := cnt false
  have tot : (madeL n near l).length = ((madeL n near l).filter fun m => m.contains 0 == true).length + ((madeL n near l).filter fun m => m.contains 0 == false).length := by
    have go : ∀ L : List (List Nat), L.length = (L.filter fun m => m.contains 0 == true).length + (L.filter fun m => m.contains 0 == false).length := by
      intro L
      induction L with
      | nil => rfl
      | cons x L ih =>
        rw [List.filter_cons, List.filter_cons]
        cases x.contains 0
        · simp only [List.length_cons, ih]
          simp
          omega
        · simp only [List.length_cons, ih]
          simp
          omega
    exact go _
  have hpos : 0 < (madeL n near l).length := List.length_pos_of_mem (made_base hN hl)
  simp only [Bool.not_true, Bool.not_false] at e1 e2
  exact ⟨((madeL n near l).filter fun m => m.contains 0 == true).length, by omega, by omega, by omega⟩
end
end Pl

namespace Pl
open Law Wo
def put2 (q : List (List Nat) × List (List Nat)) (x : List Nat) : List (List Nat) × List (List Nat) := if q.1.contains x then q else (q.1 ++ [x], q.2 ++ [x])
def kids (n : Nat) (near : List (List Nat)) (m : List Nat) : List (List Nat) := [closL n near m, othL n m]
def turnM (n : Nat) (near f fr : List (List Nat)) : List (List Nat) × List (List Nat) := (fr.flatMap (kids n near)).foldl put2 (f, [])
theorem put_fold : ∀ (xs : List (List Nat)) (f la : List (List Nat)), ∃ ad, xs.foldl put2 (f, la) = (f ++ ad, la ++ ad) ∧ (∀ x ∈ ad, x ∈ xs ∧ x ∉ f) ∧ (∀ x ∈ xs, x ∈ f ++ ad) ∧ (f.Nodup → (f ++ ad).Nodup)
  | [], f, la => ⟨[], by simp, fun x hx => absurd hx List.not_mem_nil, fun x hx => absurd hx List.not_mem_nil, fun h => by simpa using h⟩
  | x :: xs, f, la => by
    by_cases h : f.contains x = true
    · obtain ⟨ad, e, h1, h2, h3⟩ := put_fold xs f la
      refine ⟨ad, ?_, fun y hy => ⟨List.mem_cons_of_mem _ (h1 y hy).1, (h1 y hy).2⟩, fun y hy => ?_, h3⟩
      · show xs.foldl put2 (put2 (f, la) x) = _
        unfold put2
        rw [if_pos h]
        exact e
      · rcases List.mem_cons.mp hy with z | z
        · rw [z]
          exact List.mem_append.mpr (.inl (List.contains_iff_mem.mp h))
        · exact h2 y z
    · obtain ⟨ad, e, h1, h2, h3⟩ := put_fold xs (f ++ [x]) (la ++ [x])
      have hx : x ∉ f := fun z => h (List.contains_iff_mem.mpr z)
      refine ⟨x :: ad, ?_, fun y hy => ?_, fun y hy => ?_, fun hn => ?_⟩
      · show xs.foldl put2 (put2 (f, la) x) = _
        unfold put2
        rw [if_neg h]
        rw [show f ++ x :: ad = (f ++ [x]) ++ ad by simp, show la ++ x :: ad = (la ++ [x]) ++ ad by simp]
        exact e
      · rcases List.mem_cons.mp hy with z | z
        · rw [z]; exact ⟨List.mem_cons_self, hx⟩
        · obtain ⟨a, b⟩ := h1 y z
          exact ⟨List.mem_cons_of_mem _ a, fun q => b (List.mem_append.mpr (.inl q))⟩
      · rw [show f ++ x :: ad = (f ++ [x]) ++ ad by simp]
        rcases List.mem_cons.mp hy with z | z
        · rw [z]; simp
        · exact h2 y z
      · rw [show f ++ x :: ad = (f ++ [x]) ++ ad by simp]
        refine h3 ?_
        rw [List.nodup_append]
        refine ⟨hn, by simp, fun a ha b hb => ?_⟩
        have hb : b = x := by simpa using hb
        rw [hb]
        intro e
        rw [e] at ha
        exact hx ha
structure GrM (n : Nat) (near : List (List Nat)) (l : List Nat) (f fr : List (List Nat)) : Prop where
  nd : f.Nodup
  rch : ∀ m ∈ f, Rch n near l m
  base : l ∈ f
  cl : ∀ m ∈ f, m ∈ fr ∨ (closL n near m ∈ f ∧ othL n m ∈ f)
  sub : ∀ m ∈ fr, m ∈ f
  frl : fr.length ≤ f.length
theorem GrM.turn {n : Nat} {near : List (List Nat)} {l : List Nat} {f fr : List (List Nat)} (g : GrM n near l f fr) : GrM n near l (turnM n near f fr).1 (turnM n near f fr).2 ∧ (turnM n near f fr).1.length = f.length + (turnM n near f fr).2.length := by
  obtain ⟨ad, e, h1, h2, h3⟩ := put_fold (fr.flatMap (kids n near)) f []
  have e : turnM n near f fr = (f ++ ad, [] ++ ad) := e
  rw [List.nil_append] at e
  rw [e]
  refine ⟨⟨h3 g.nd, fun m hm => ?_, List.mem_append.mpr (.inl g.base), fun m hm => ?_, fun m hm => List.mem_append.mpr (.inr hm), by show ad.length ≤ (f ++ ad).length; rw [List.length_append]; omega⟩, by rw [List.length_append]⟩
  · rcases List.mem_append.mp hm with z | z
    · exact g.rch m z
    · obtain ⟨x, hx, hmx⟩ := List.mem_flatMap.mp (h1 m z).1
      have hr := g.rch x (g.sub x hx)
      have : m = closL n near x ∨ m = othL n x := by simpa [kids] using hmx
      rcases this with rfl | rfl
      · exact .clos hr
      · exact .oth hr
  · rcases List.mem_append.mp hm with z | z
    · right
      rcases g.cl m z with w | ⟨w1, w2⟩
      · exact ⟨h2 _ (List.mem_flatMap.mpr ⟨m, w, by simp [kids]⟩), h2 _ (List.mem_flatMap.mpr ⟨m, w, by simp [kids]⟩)⟩
      · exact ⟨List.mem_append.mpr (.inl w1), List.mem_append.mpr (.inl w2)⟩
    · exact .inl z
theorem GrM.all {n : Nat} {near : List (List Nat)} {l : List Nat} {f : List (List Nat)} (g : GrM n near l f []) {m : List Nat} : m ∈ f ↔ Rch n near l m := by
  refine ⟨g.rch m, fun h => ?_⟩
  induction h with
  | base => exact g.base
  | clos _ ih => exact ((g.cl _ ih).resolve_left (fun z => by cases z)).1
  | oth _ ih => exact ((g.cl _ ih).resolve_left (fun z => by cases z)).2
theorem GrM.len {n : Nat} {near : List (List Nat)} (hN : Near n near) {l : List Nat} (hl : Lot n l) {f fr : List (List Nat)} (g : GrM n near l f fr) : f.length ≤ 14 :=
  Nat.le_trans (sub_lenL hN hl g.nd fun m hm => (made_iff hN hl).mpr (g.rch m hm)) (madeL_len n near l)
def runM (n : Nat) (near : List (List Nat)) : Nat → List (List Nat) → List (List Nat) → List (List Nat)
  | 0, f, _ => f
  | k + 1, f, fr => if (turnM n near f fr).2.isEmpty then (turnM n near f fr).1 else runM n near k (turnM n near f fr).1 (turnM n near f fr).2
theorem run_ok {n : Nat} {near : List (List Nat)} (hN : Near n near) {l : List Nat} (hl : Lot n l) : ∀ (k : Nat) (f fr : List (List Nat)), GrM n near l f fr → 14 < f.length + k → GrM n near l (runM n near k f fr) []
  | 0, f, fr, g, h14 => by
    have := g.len hN hl
    omega
  | k + 1, f, fr, g, h14 => by
    obtain ⟨g', hlen⟩ := g.turn
    unfold runM
    by_cases q : (turnM n near f fr).2.isEmpty = true
    · rw [if_pos q]
      rw [List.isEmpty_iff.mp q] at g'
      exact g'
    · rw [if_neg q]
      have hpos : 0 < (turnM n near f fr).2.length := List.length_pos_iff.mpr fun e => q (by rw [e]; rfl)
      exact run_ok hN hl k _ _ g' (by omega)
end Pl
namespace Law
open PySem L2 Mir Pl Wo
abbrev lotW (ls : List (List Nat)) : List P := ls.map fun l => P.lst (nums l)
theorem inP_lotW (l : List Nat) : ∀ ls : List (List Nat), inP (.lst (nums l)) (lotW ls) = ls.contains l
  | [] => rfl
  | m :: ls => by
    show ((P.lst (nums m)).eqv (.lst (nums l)) || inP (.lst (nums l)) (lotW ls)) = _
    have e : (P.lst (nums m)).eqv (.lst (nums l)) = (m == l) := by
      show eqvL (nums m) (nums l) = _
      have go : ∀ a b : List Nat, eqvL (nums a) (nums b) = (a == b) := by
        intro a
        induction a with
        | nil => intro b; cases b <;> rfl
        | cons x a ih =>
          intro b
          cases b with
          | nil => rfl
          | cons y b =>
            show (((x : Int) == (y : Int)) && eqvL (nums a) (nums b)) = ((x == y) && (a == b))
            rw [ih]
            congr 1
            rw [Bool.eq_iff_iff]
            simp
            omega
      exact go m l
    rw [e, inP_lotW l ls, List.contains_cons, Bool.eq_iff_iff]
    simp only [Bool.or_eq_true, beq_iff_eq]
    exact ⟨fun z => z.elim (fun q => .inl q.symm) .inr, fun z => z.elim (fun q => .inl q.symm) .inr⟩
theorem dat_numW (l : List Nat) (k : Nat) : (P.lst (nums l)).dat (k + 1) = true := datL_of fun x _ => rfl
theorem dat_lotW (ls : List (List Nat)) (k : Nat) : (P.lst (lotW ls)).dat (k + 2) = true := datL_of fun x _ => dat_numW x k
theorem op_niLW (l : List Nat) (ls : List (List Nat)) : pNotIn2 (.lst (nums l)) (.lst (lotW ls)) = some (.bl (!ls.contains l)) := by
  have e : pNotIn (.lst (nums l)) (.lst (lotW ls)) = none := by
    unfold pNotIn pIn
    rfl
  unfold pNotIn2
  rw [e]
  show (if ((P.lst (nums l)).dat 60 && (P.lst (lotW ls)).dat 60) = true then some (P.bl (!inP (.lst (nums l)) (lotW ls))) else none) = _
  rw [dat_numW l 59, dat_lotW ls 58, inP_lotW]
  rfl
theorem take_set {A : Type} {l : List A} {i n : Nat} {a : A} (h : n ≤ i) : (l.set i a).take n = l.take n := by
  apply List.ext_getElem?
  intro j
  rw [List.getElem?_take, List.getElem?_take]
  split
  · rw [List.getElem?_set_ne (by omega)]
  · rfl
structure StM (S : Sto) (J : Nat) (f la : List (List Nat)) (T : Sto) : Prop where
  low : T.take S.length = S
  fnd : T[S.length]? = some (.lst (lotW f))
  lat : T[J]? = some (.lst (lotW la))
  ne : S.length < J
abbrev bd7 : MS := (sIf (tVal (eBin pNotIn2 (eVar 7) (eVar 3))) (sSeq (sExpr (eMut isL fApp (eVar 3) (aCons (eVar 7) aNil))) (sExpr (eMut isL fApp (eVar 5) (aCons (eVar 7) aNil)))) sPass)
abbrev bd6 : MS := (sFor (itOf (eLst (aCons (eFn m__law_shut (aCons (eVar 0) (aCons (eVar 6) aNil))) (aCons (eFn m__law_rest (aCons (eVar 0) (aCons (eVar 6) aNil))) aNil)))) (gNm 7) bd7)
abbrev bdM : MS := (sSeq (sAsg (eLstC aNil) (gNm 5)) (sSeq (sFor (itOf (eVar 4)) (gNm 6) bd6) (sSeq (sAsg (eVar 5) (gNm 4)) (sIf (tVal (eBin pEq (eVar 4) (eLst aNil))) sBreak sPass))))
abbrev enM (near : List (List Nat)) (l : List Nat) (S : Sto) (a2 : Option Vl) (d : Vl) (a5 a6 a7 : Option Vl) : En := [some (.p (nearP near)), some (.p (.lst (nums l))), a2, some (.c S.length), some d, a5, a6, a7]
theorem lotW_snoc (f : List (List Nat)) (x : List Nat) : lotW (f ++ [x]) = lotW f ++ [.lst (nums x)] := by unfold lotW; rw [List.map_append]; rfl
theorem put_ok {near : List (List Nat)} {l : List Nat} {S : Sto} {J : Nat} {a2 : Option Vl} {d : Vl} {a6 : Option Vl} {f la : List (List Nat)} {T : Sto} {x : List Nat} (st : StM S J f la T) (hf : f.length ≤ 1000) (hla : la.length ≤ 1000) :
    ∃ T', bd7 (enM near l S a2 d (some (.c J)) a6 (some (.p (.lst (nums x))))) T = .ok (.nx (enM near l S a2 d (some (.c J)) a6 (some (.p (.lst (nums x)))))) T' ∧ StM S J (put2 (f, la) x).1 (put2 (f, la) x).2 T' ∧ T'.length = T.length := by
  unfold put2
  by_cases q : f.contains x = true
  · rw [if_pos q]
    refine ⟨T, ev_sif (ev_tval (ev_bin (ev_var rfl) (ev_var rfl) rfl (rd_lst st.fnd) (op_niLW x f))) ?_, st, rfl⟩
    rw [q]
    exact ifK_f ev_pass
  · rw [if_neg q]
    have q : f.contains x = false := by simpa using q
    have hJ := st.ne
    have h5 : (T.set S.length (.lst (lotW f ++ [.lst (nums x)])))[J]? = some (.lst (lotW la)) := by rw [List.getElem?_set_ne (by omega)]; exact st.lat
    have hT : S.length < T.length := (List.getElem?_eq_some_iff.mp st.fnd).1
    have hJT : J < T.length := (List.getElem?_eq_some_iff.mp st.lat).1
    refine ⟨(T.set S.length (.lst (lotW f ++ [.lst (nums x)]))).set J (.lst (lotW la ++ [.lst (nums x)])), ev_sif (ev_tval (ev_bin (ev_var rfl) (ev_var rfl) rfl (rd_lst st.fnd) (op_niLW x f))) ?_, ⟨?_, ?_, ?_, hJ⟩, by rw [List.length_set, List.length_set]⟩
    · rw [q]
      exact ifK_t (ev_seq (ev_expr (ev_mut (ev_var rfl) (isL_lst st.fnd) (ev_acons (ev_var rfl) ev_anil) (app_p st.fnd (by rw [List.length_map]; omega)))) (thn_n (ev_expr (ev_mut (ev_var rfl) (isL_lst h5) (ev_acons (ev_var rfl) ev_anil) (app_p h5 (by rw [List.length_map]; omega))))))
    · rw [take_set (by omega), take_set (Nat.le_refl _)]; exact st.low
    · rw [List.getElem?_set_ne (by omega), List.getElem?_set_self hT, lotW_snoc]
    · rw [List.getElem?_set_self (by rw [List.length_set]; exact hJT), lotW_snoc]
section
variable {n : Nat} {near : List (List Nat)} (hN : Near n near) (hn : n ≤ 256)
include hN hn
theorem kids_ok {l : List Nat} {S : Sto} {J : Nat} {a2 : Option Vl} {d : Vl} {a7 : Option Vl} {f la : List (List Nat)} {T : Sto} {m : List Nat} (st : StM S J f la T) (hf : f.length ≤ 900) (hla : la.length ≤ 900) :
    ∃ T' a7', bd6 (enM near l S a2 d (some (.c J)) (some (.p (.lst (nums m)))) a7) T = .ok (.nx (enM near l S a2 d (some (.c J)) (some (.p (.lst (nums m)))) a7')) T' ∧ StM S J ((kids n near m).foldl put2 (f, la)).1 ((kids n near m).foldl put2 (f, la)).2 T' ∧ T'.length = T.length := by
  have hrow : ∀ i, i < n → (row near i).length ≤ 1000 := fun i hi => Nat.le_trans (nodup_len n _ ((hN.srt i hi).imp fun z => Nat.ne_of_lt z) (hN.lt i hi)) (by omega)
  have c1 := shut_ok (l := m) hN.len (by omega) hrow
  have c2 := rest_ok (l := m) hN.len (by omega)
  have it : itOf (eLst (aCons (eFn m__law_shut (aCons (eVar 0) (aCons (eVar 6) aNil))) (aCons (eFn m__law_rest (aCons (eVar 0) (aCons (eVar 6) aNil))) aNil))) (enM near l S a2 d (some (.c J)) (some (.p (.lst (nums m)))) a7) T = .ok ((kids n near m).map fun l => P.lst (nums l)) T :=
    ev_itOf (ev_lst (ev_acons (ev_fn (ev_acons (ev_var rfl) (ev_acons (ev_var rfl) ev_anil)) (c1 _)) (ev_acons (ev_fn (ev_acons (ev_var rfl) (ev_acons (ev_var rfl) ev_anil)) (c2 _)) ev_anil)) (frzs_s fr_p (frzs_s fr_p frzs_z)) (by simp)) fr_p rfl
  have plen : ∀ (xs : List (List Nat)) (q : List (List Nat) × List (List Nat)), (xs.foldl put2 q).1.length ≤ q.1.length + xs.length ∧ (xs.foldl put2 q).2.length ≤ q.2.length + xs.length := by
    intro xs
    induction xs with
    | nil => exact fun q => ⟨Nat.le_refl _, Nat.le_refl _⟩
    | cons x xs ih =>
      intro q
      have h := ih (put2 q x)
      have h2 : (put2 q x).1.length ≤ q.1.length + 1 ∧ (put2 q x).2.length ≤ q.2.length + 1 := by
        unfold put2
        split
        · omega
        · simp
      show ((xs.foldl put2 (put2 q x)).1.length ≤ _ ∧ (xs.foldl put2 (put2 q x)).2.length ≤ _)
      rw [List.length_cons]
      omega
  have go : WS (bd6 (enM near l S a2 d (some (.c J)) (some (.p (.lst (nums m)))) a7) T) fun r T' => ∃ a7', r = .nx (enM near l S a2 d (some (.c J)) (some (.p (.lst (nums m)))) a7') ∧ StM S J ((kids n near m).foldl put2 (f, la)).1 ((kids n near m).foldl put2 (f, la)).2 T' ∧ T'.length = T.length := by
    refine ws_forM (us := kids n near m) (en := fun l => P.lst (nums l)) (fun i ρ T' => (∃ a7, ρ = enM near l S a2 d (some (.c J)) (some (.p (.lst (nums m)))) a7) ∧ StM S J (((kids n near m).take i).foldl put2 (f, la)).1 (((kids n near m).take i).foldl put2 (f, la)).2 T' ∧ T'.length = T.length) it ⟨⟨_, rfl⟩, st, rfl⟩ ?_ ?_
    · rintro i x ρ T' hi ⟨⟨a7, rfl⟩, st', hl'⟩
      have e : ((kids n near m).take (i + 1)).foldl put2 (f, la) = put2 (((kids n near m).take i).foldl put2 (f, la)) x := fold_take put2 hi
      obtain ⟨p1, p2⟩ := plen ((kids n near m).take i) (f, la)
      have hk : ((kids n near m).take i).length ≤ 2 := by rw [List.length_take]; show min i 2 ≤ 2; omega
      obtain ⟨T2, e2, st2, hl2⟩ := put_ok (near := near) (l := l) (a2 := a2) (d := d) (a6 := some (.p (.lst (nums m)))) (x := x) st' (by simp only at p1; omega) (by simp only at p2; omega)
      refine ⟨_, _, ev_gnm rfl, ws_of e2 ⟨_, .inl rfl, ⟨_, rfl⟩, ?_, hl2.trans hl'⟩⟩
      rw [e]
      exact st2
    · rintro ρ' T' ⟨⟨a7, rfl⟩, st', hl'⟩
      rw [List.take_length] at st'
      exact ⟨a7, rfl, st', hl'⟩
  obtain ⟨r, T', e, a7', rfl, st', hl'⟩ := go
  exact ⟨T', a7', e, st', hl'⟩
def FrM (S : Sto) (fr : List (List Nat)) (d : Vl) (T : Sto) : Prop := d = .p (.lst (lotW fr)) ∨ ∃ j, d = .c j ∧ S.length < j ∧ T[j]? = some (.lst (lotW fr))
theorem turn_ok {l : List Nat} {S : Sto} {a2 a5 a6 a7 : Option Vl} {d : Vl} {f fr : List (List Nat)} {T : Sto} (low : T.take S.length = S) (fnd : T[S.length]? = some (.lst (lotW f))) (hd : FrM S fr d T) (hf : f.length ≤ 100) (hfr : fr.length ≤ 100) :
    ∃ T' a6' a7', bdM (enM near l S a2 d a5 a6 a7) T = .ok (if (turnM n near f fr).2.isEmpty then .bk (enM near l S a2 (.c T.length) (some (.c T.length)) a6' a7') else .nx (enM near l S a2 (.c T.length) (some (.c T.length)) a6' a7')) T' ∧ StM S T.length (turnM n near f fr).1 (turnM n near f fr).2 T' := by
  have hT : S.length < T.length := (List.getElem?_eq_some_iff.mp fnd).1
  obtain ⟨T1, eT1, st1, hl1⟩ : ∃ T1, frz d (T ++ [.lst []]) = .ok (.lst (lotW fr)) T1 ∧ StM S T.length f [] T1 ∧ T1.length = T.length + 1 := by
    have low0 : (T ++ [Cell.lst []]).take S.length = S := by rw [List.take_append_of_le_length (by omega)]; exact low
    have fnd0 : (T ++ [Cell.lst []])[S.length]? = some (.lst (lotW f)) := by rw [List.getElem?_append_left hT]; exact fnd
    have lat0 : (T ++ [Cell.lst []])[T.length]? = some (.lst (lotW [])) := by simp
    rcases hd with rfl | ⟨j, rfl, hj, hTj⟩
    · exact ⟨_, rfl, ⟨low0, fnd0, lat0, hT⟩, by simp⟩
    · have hjT : j < T.length := (List.getElem?_eq_some_iff.mp hTj).1
      have hj0 : (T ++ [Cell.lst []])[j]? = some (.lst (lotW fr)) := by rw [List.getElem?_append_left hjT]; exact hTj
      refine ⟨_, frz_lst hj0, ⟨?_, ?_, ?_, hT⟩, by rw [List.length_set]; simp⟩
      · rw [take_set (by omega)]; exact low0
      · rw [List.getElem?_set_ne (by omega)]; exact fnd0
      · rw [List.getElem?_set_ne (by omega)]; exact lat0
  have plen : ∀ (xs : List (List Nat)), (xs.flatMap (kids n near)).length = 2 * xs.length := by
    intro xs
    induction xs with
    | nil => rfl
    | cons x xs ih =>
      rw [List.flatMap_cons, List.length_append, ih, List.length_cons]
      show 2 + _ = _
      omega
  have plen2 : ∀ (xs : List (List Nat)) (q : List (List Nat) × List (List Nat)), (xs.foldl put2 q).1.length ≤ q.1.length + xs.length ∧ (xs.foldl put2 q).2.length ≤ q.2.length + xs.length := by
    intro xs
    induction xs with
    | nil => exact fun q => ⟨Nat.le_refl _, Nat.le_refl _⟩
    | cons x xs ih =>
      intro q
      have h := ih (put2 q x)
      have h2 : (put2 q x).1.length ≤ q.1.length + 1 ∧ (put2 q x).2.length ≤ q.2.length + 1 := by
        unfold put2
        split
        · omega
        · simp
      show ((xs.foldl put2 (put2 q x)).1.length ≤ _ ∧ (xs.foldl put2 (put2 q x)).2.length ≤ _)
      rw [List.length_cons]
      omega
  have go : WS (bdM (enM near l S a2 d a5 a6 a7) T) fun r T' => ∃ a6' a7', r = (if (turnM n near f fr).2.isEmpty then Fl.bk (enM near l S a2 (.c T.length) (some (.c T.length)) a6' a7') else .nx (enM near l S a2 (.c T.length) (some (.c T.length)) a6' a7')) ∧ StM S T.length (turnM n near f fr).1 (turnM n near f fr).2 T' := by
    refine ws_seq (ev_asg (ev_lstC ev_anil frzs_z (by simp)) (ev_gnm rfl)) ?_
    refine ws_seqW (ws_forM (us := fr) (en := fun l => P.lst (nums l)) (fun i ρ T' => (∃ a6 a7, ρ = enM near l S a2 d (some (.c T.length)) a6 a7) ∧ StM S T.length (((fr.take i).flatMap (kids n near)).foldl put2 (f, [])).1 (((fr.take i).flatMap (kids n near)).foldl put2 (f, [])).2 T') (ev_itOf (ev_var rfl) eT1 rfl) ⟨⟨_, _, rfl⟩, st1⟩ ?_ ?_)
    · rintro i m ρ T' hi ⟨⟨a6, a7, rfl⟩, st'⟩
      have e : ((fr.take (i + 1)).flatMap (kids n near)).foldl put2 (f, []) = (kids n near m).foldl put2 (((fr.take i).flatMap (kids n near)).foldl put2 (f, [])) := by
        have : fr.take (i + 1) = fr.take i ++ [m] := by rw [List.take_succ, hi]; rfl
        rw [this, List.flatMap_append, List.foldl_append]
        simp
      obtain ⟨p1, p2⟩ := plen2 ((fr.take i).flatMap (kids n near)) (f, [])
      rw [plen] at p1 p2
      have hti : (fr.take i).length ≤ fr.length := by rw [List.length_take]; omega
      obtain ⟨T2, a7', e2, st2, _⟩ := kids_ok hN hn (l := l) (a2 := a2) (d := d) (a7 := a7) (m := m) st' (by simp only at p1; omega) (by simp only [List.length_nil] at p2; omega)
      refine ⟨_, _, ev_gnm rfl, ws_of e2 ⟨_, .inl rfl, ⟨_, _, rfl⟩, ?_⟩⟩
      rw [e]
      exact st2
    · rintro ρ' T' ⟨⟨a6, a7, rfl⟩, st'⟩
      rw [List.take_length] at st'
      change StM S T.length (turnM n near f fr).1 (turnM n near f fr).2 T' at st'
      refine ⟨_, rfl, ?_⟩
      refine ws_seq (ev_asg (ev_var rfl) (ev_gnm rfl)) ?_
      have eo := op_eqL0 (l := (turnM n near f fr).2) (f := fun l => P.lst (nums l)) fun l _ => dat_numW l 58
      by_cases q : (turnM n near f fr).2.isEmpty = true
      · rw [q] at eo
        refine ws_of (ev_sif (ev_tval (ev_bin (ev_var rfl) (ev_lst ev_anil frzs_z (by simp)) (rd_lst st'.lat) rfl eo)) (ifK_t (show sBreak _ _ = .ok (.bk _) _ from rfl))) ⟨a6, a7, ?_, st'⟩
        rw [if_pos q]
        rfl
      · have q : (turnM n near f fr).2.isEmpty = false := by simpa using q
        rw [q] at eo
        refine ws_of (ev_sif (ev_tval (ev_bin (ev_var rfl) (ev_lst ev_anil frzs_z (by simp)) (rd_lst st'.lat) rfl eo)) (ifK_f ev_pass)) ⟨a6, a7, ?_, st'⟩
        rw [q]
        rfl
  obtain ⟨r, T', e, a6', a7', rfl, st'⟩ := go
  exact ⟨T', a6', a7', e, st'⟩
theorem loopM {l : List Nat} (hl : Lot n l) {S : Sto} : ∀ (zs : List P) (f fr : List (List Nat)) (T : Sto) (a2 a5 a6 a7 : Option Vl) (d : Vl), GrM n near l f fr → T.take S.length = S → T[S.length]? = some (.lst (lotW f)) → FrM S fr d T →
    ∃ T' ρ', forGo (gNm 2) bdM zs (enM near l S a2 d a5 a6 a7) T = .ok (.nx ρ') T' ∧ ρ'[3]? = some (some (.c S.length)) ∧ T'.take S.length = S ∧ T'[S.length]? = some (.lst (lotW (runM n near zs.length f fr)))
  | [], f, fr, T, _, _, _, _, _, g, low, fnd, _ => ⟨T, _, rfl, rfl, low, fnd⟩
  | z :: zs, f, fr, T, a2, a5, a6, a7, d, g, low, fnd, hd => by
    have hf := g.len hN hl
    have hfr : fr.length ≤ 100 := Nat.le_trans g.frl (by omega)
    obtain ⟨T', a6', a7', e, st'⟩ := turn_ok hN hn (l := l) (a2 := some (.p z)) (a5 := a5) (a6 := a6) (a7 := a7) low fnd hd (by omega) hfr
    obtain ⟨g', hlen⟩ := g.turn
    have eg : gNm 2 (.p z) (enM near l S a2 d a5 a6 a7) T = .ok (enM near l S (some (.p z)) d a5 a6 a7) T := rfl
    unfold forGo
    rw [eg, nox_ok, go_ok, e]
    have er : runM n near (z :: zs).length f fr = if (turnM n near f fr).2.isEmpty then (turnM n near f fr).1 else runM n near zs.length (turnM n near f fr).1 (turnM n near f fr).2 := rfl
    rw [er]
    by_cases q : (turnM n near f fr).2.isEmpty = true
    · rw [if_pos q, if_pos q]
      exact ⟨T', _, rfl, rfl, st'.low, st'.fnd⟩
    · rw [if_neg q, if_neg q]
      exact loopM hl zs _ _ T' _ _ _ _ _ g' st'.low st'.fnd (.inr ⟨_, rfl, st'.ne, st'.lat⟩)
theorem law_made_ok {l : List Nat} (hl : Lot n l) : ∃ f, f.Nodup ∧ (∀ m, m ∈ f ↔ Rch n near l m) ∧ f.length ≤ 14 ∧ ∀ S, m__law_made [.p (nearP near), .p (.lst (nums l))] S = .ok (.p (.lst (lotW f))) S := by
  have hll := hl.len
  have sr : pSorted [.lst (nums l)] = some (.lst (nums l)) := by
    have e := pSorted_nums l
    rw [show sortN l = l from sorted_eq (sortN_sorted hl.nd) hl.srt fun e => sortN_mem] at e
    exact e
  have g0 : GrM n near l [l] [l] := ⟨by simp, fun m hm => by rw [List.mem_singleton.mp hm]; exact .base, by simp, fun m hm => .inl hm, fun m hm => hm, Nat.le_refl _⟩
  have g1 := run_ok hN hl 40 [l] [l] g0 (by simp)
  refine ⟨runM n near 40 [l] [l], g1.nd, fun m => g1.all, g1.len hN hl, fun S => ?_⟩
  unfold m__law_made b__law_made
  refine ws_mkFe (ρ := [some (.p (nearP near)), some (.p (.lst (nums l))), none, none, none, none, none, none]) rfl rfl ?_
  have es : ∀ T, eCall pSorted (aCons (eVar 1) aNil) [some (.p (nearP near)), some (.p (.lst (nums l))), none, none, none, none, none, none] T = .ok (.p (.lst (nums l))) T := fun T => ev_call (ev_acons (ev_var rfl) ev_anil) (rds_c rfl (rds_nil _)) sr
  refine ws_seq (ev_par (ev_acons (ev_lstC (ev_acons (es _) ev_anil) (frzs_s fr_p frzs_z) (by simp)) (ev_acons (ev_lst (ev_acons (es _) ev_anil) (frzs_s fr_p frzs_z) (by simp)) ev_anil)) rfl) ?_
  have low : (S ++ [Cell.lst (lotW [l])]).take S.length = S := by simp
  have fnd : (S ++ [Cell.lst (lotW [l])])[S.length]? = some (.lst (lotW [l])) := cell0
  obtain ⟨T', ρ', e1, e2, e3, e4⟩ := loopM hN hn hl (S := S) ((List.range 40).map fun (k : Nat) => P.int (k : Int)) [l] [l] (S ++ [.lst (lotW [l])]) none none none none (.p (.lst (lotW [l]))) g0 low fnd (.inl rfl)
  rw [List.length_map, List.length_range] at e4
  have lp : sFor (itRange1 (eC (.int 40))) (gNm 2) bdM (enM near l S none (.p (.lst (lotW [l]))) none none none) (S ++ [.lst (lotW [l])]) = .ok (.nx ρ') T' := by
    have it : itRange1 (eC (.int 40)) (enM near l S none (.p (.lst (lotW [l]))) none none none) (S ++ [.lst (lotW [l])]) = .ok ((List.range 40).map fun (k : Nat) => P.int (k : Int)) (S ++ [.lst (lotW [l])]) := ev_range1 (n := 40) ev_c (by decide)
    rw [sFor_eq, it, go_ok, e1]
  refine ws_seq lp ?_
  refine ws_of (ev_ret (ev_var e2)) ?_
  show retV S.length (.c S.length) T' = _
  unfold retV
  dsimp only
  rw [if_neg (Nat.lt_irrefl _), frz_lst e4, bind_ok, take_set (Nat.le_refl _), e3]
end
end Law

namespace Law
open PySem L2 Mir Pl Wo
theorem inP_rows (t : List (List Nat)) : ∀ rs : List (List (List Nat)), inP (.tup (txts t)) (rs.map fun t => P.tup (txts t)) = rs.contains t
  | [] => rfl
  | r :: rs => by
    show ((P.tup (txts r)).eqv (.tup (txts t)) || inP (.tup (txts t)) (rs.map fun t => P.tup (txts t))) = _
    have e : (P.tup (txts r)).eqv (.tup (txts t)) = (r == t) := eqvL_txt
    rw [e, inP_rows t rs, List.contains_cons, Bool.eq_iff_iff]
    simp only [Bool.or_eq_true, beq_iff_eq]
    exact ⟨fun z => z.elim (fun q => .inl q.symm) .inr, fun z => z.elim (fun q => .inl q.symm) .inr⟩
theorem op_niTT {t : List (List Nat)} {rs : List (List (List Nat))} (ht : ∀ x ∈ t, asc x = true) (hr : ∀ r ∈ rs, ∀ x ∈ r, asc x = true) : pNotIn3 (.tup (txts t)) (.tup (rs.map fun t => P.tup (txts t))) = some (.bl (!rs.contains t)) := by
  have e : pNotIn2 (.tup (txts t)) (.tup (rs.map fun t => P.tup (txts t))) = none := by
    unfold pNotIn2 pNotIn pIn
    rfl
  have d1 : (P.tup (txts t)).dat 60 = true := datL_of fun x hx => ht x hx
  have d2 : (P.tup (rs.map fun t => P.tup (txts t))).dat 60 = true := datL_of fun r hr' => datL_of fun x hx => hr r hr' x hx
  unfold pNotIn3
  rw [e]
  show (if ((P.tup (txts t)).dat 60 && (P.tup (rs.map fun t => P.tup (txts t))).dat 60) = true then some (P.bl (!inP (.tup (txts t)) (rs.map fun t => P.tup (txts t)))) else none) = _
  rw [d1, d2, inP_rows]
  rfl
theorem due_perm {order bs bs' : List (List Nat)} (p : bs.Perm bs') : dueP order bs = dueP order bs' := by
  unfold dueP
  rw [sortR_perm (p.map _)]
section
variable {n : Nat} {order near : List (List Nat)} (h : Spc n order near)
include h
theorem pick_inj {b m : List Nat} (hb : Lot n b) (hm : Lot n m) (e : pick order b = pick order m) : b = m := lot_ext hb hm fun i hi => by
  have h1 := pick_contains h (A := b) hb.lt hi
  have h2 := pick_contains h (A := m) hm.lt hi
  rw [e, h2] at h1
  have := Bool.eq_iff_iff.mp h1
  simpa using this.symm
theorem rows_contains {bs : List (List Nat)} (hb : ∀ b ∈ bs, Lot n b) {m : List Nat} (hm : Lot n m) : (rowsR order bs).contains (pick order m) = bs.contains m := by
  rw [Bool.eq_iff_iff, List.contains_iff_mem, List.contains_iff_mem, mem_rows]
  exact ⟨fun ⟨b, hbm, e⟩ => pick_inj h (hb b hbm) hm e ▸ hbm, fun z => ⟨m, z, rfl⟩⟩
theorem rows_asc {bs : List (List Nat)} (hb : ∀ b ∈ bs, Lot n b) : ∀ r ∈ rowsR order bs, ∀ x ∈ r, asc x = true := fun r hr x hx => by
  obtain ⟨b, hbm, rfl⟩ := mem_rows.mp hr
  exact (h.pick_nm (hb b hbm) x hx).asc
theorem op_niD {bs : List (List Nat)} (hb : ∀ b ∈ bs, Lot n b) {m : List Nat} (hm : Lot n m) : pNotIn3 (setP order m) (dueP order bs) = some (.bl (!bs.contains m)) := by
  have e := op_niTT (t := pick order m) (rs := rowsR order bs) (fun x hx => (h.pick_nm hm x hx).asc) (rows_asc h hb)
  rw [rows_contains h hb hm] at e
  exact e
theorem due_dat {bs : List (List Nat)} (hb : ∀ b ∈ bs, Lot n b) (k : Nat) : (dueP order bs).dat (k + 2) = true := datL_of fun t htm => by
  obtain ⟨b, hbm, rfl⟩ := mem_rows.mp htm
  exact h.dat (hb b hbm) k
theorem due_repr14 (hn : n ≤ 6) {bs : List (List Nat)} (hb : ∀ b ∈ bs, Lot n b) (hl8 : bs.length ≤ 14) : ∃ y, pRepr [.lst [dueP order bs, dueP order bs]] = some (.str y) ∧ pNe (.str y) (.str y) = some (.bl false) := by
  have ht : ∀ t ∈ rowsR order bs, ∃ b, Lot n b ∧ P.tup (txts t) = setP order b := fun t ht => by
    obtain ⟨b, hbm, rfl⟩ := mem_rows.mp ht
    exact ⟨b, hb b hbm, rfl⟩
  have d1 : (dueP order bs).dat 59 = true := due_dat h hb 57
  have s1 : (dueP order bs).toD.showable = true := by
    show (PyData.tuple (toDL _)).showable = true
    rw [PyData.showable.eq_6]
    refine showL_map fun t htm => ?_
    obtain ⟨b, hb, e⟩ := ht t htm
    rw [e]
    exact h.show_ hb
  have zs : ∀ b, Lot n b → (setP order b).sz ≤ 600 := fun b hb => by
    show szL _ + 4 ≤ 600
    have h1 := szL_map (f := P.str) (c := 82) (l := pick order b) fun x hx => by
      have := (h.pick_nm hb x hx).len
      show 10 * x.length + 2 ≤ 82
      omega
    have h2 := hb.len
    have h4 : (pick order b).length = b.length := by unfold pick; rw [List.length_map]
    unfold txts
    rw [h4] at h1
    omega
  have z1 : (dueP order bs).sz ≤ 10000 := by
    show szL ((rowsR order bs).map fun t => P.tup (txts t)) + 4 ≤ 10000
    have h1 := szL_map (f := fun t => P.tup (txts t)) (c := 600) (l := rowsR order bs) fun t htm => by
      obtain ⟨b, hb, e⟩ := ht t htm
      show (P.tup (txts t)).sz ≤ 600
      rw [e]
      exact zs b hb
    rw [rows_len] at h1
    have h2 : bs.length * (600 + 2) ≤ 14 * 602 := Nat.mul_le_mul_right _ hl8
    omega
  have n1 : (dueP order bs).noInt = true := noInt_map fun t htm => by
    obtain ⟨b, hb, e⟩ := ht t htm
    rw [e]
    exact h.noInt hb
  have dd : (P.lst [dueP order bs, dueP order bs]).dat 60 = true := by
    show ((dueP order bs).dat 59 && ((dueP order bs).dat 59 && true)) = true
    rw [d1]
    rfl
  have ds : (P.lst [dueP order bs, dueP order bs]).toD.showable = true := by
    show (PyData.list [(dueP order bs).toD, (dueP order bs).toD]).showable = true
    rw [PyData.showable.eq_5, PyData.showableAll.eq_2, PyData.showableAll.eq_2, PyData.showableAll.eq_1, s1]
    rfl
  have dz : (P.lst [dueP order bs, dueP order bs]).sz ≤ 100000 := by
    show (dueP order bs).sz + 2 + ((dueP order bs).sz + 2 + 0) + 4 ≤ 100000
    omega
  have dn : (P.lst [dueP order bs, dueP order bs]).noInt = true := by
    show ((dueP order bs).noInt && ((dueP order bs).noInt && true)) = true
    rw [n1]
    rfl
  exact ⟨_, op_reprL dd ds dz, op_neX (reprP_asc dd dn)⟩
theorem law_due_ok {l : List Nat} (hl : Lot n l) : ∃ f, f.Nodup ∧ f.length ≤ 14 ∧ dueP order f = dueP order (madeL n near l) ∧ (∀ m, m ∈ f ↔ m ∈ madeL n near l) ∧ ∀ S, m__law_made [.p (nearP near), .p (.lst (nums l))] S = .ok (.p (.lst (lotW f))) S := by
  obtain ⟨f, nd, hm, h14, c⟩ := law_made_ok h.near h.le hl
  have hiff : ∀ m, m ∈ f ↔ m ∈ madeL n near l := fun m => (hm m).trans (made_iff h.near hl).symm
  exact ⟨f, nd, h14, due_perm (perm_of nd made_nd hiff), hiff, c⟩
end
end Law

namespace Law
open PySem L2 Mir Pl Wo
abbrev enR (k n : Nat) (order near : List (List Nat)) (a3 a6 a7 a8 a9 a10 : Option Vl) : En := [some (.c k), some (.p (.int (n : Int))), some (.p (spcP n order near)), a3, some (.p (nearP near)), some (.p (.lst (txts order))), a6, a7, a8, a9, a10]
theorem ni_even {j : Nat} (h1 : 1 ≤ j) (h7 : j ≤ 7) : pNotIn3 (.int ((2 * j : Nat) : Int)) (.lst [.int 2, .int 4, .int 6, .int 8, .int 10, .int 12, .int 14]) = some (.bl false) := by
  have : j = 1 ∨ j = 2 ∨ j = 3 ∨ j = 4 ∨ j = 5 ∨ j = 6 ∨ j = 7 := by omega
  rcases this with rfl | rfl | rfl | rfl | rfl | rfl | rfl <;> rfl
theorem right_ok {S : Sto} {k : Nat} (hu : Urn S k) : ∃ S', m__law_right [.c k] S = .ok (.p (.bl true)) S' := by
  obtain ⟨r, S1, e1, r0, r1, u1⟩ := ladle_ok (n := 6) hu (by decide) (by decide)
  obtain ⟨q, rfl⟩ := Int.eq_ofNat_of_zero_le r0
  have hq : q < 6 := by omega
  obtain ⟨near, S2, e2, hnear, u2⟩ := drawn_near_ok (n := 1 + q) u1.urn (by omega)
  obtain ⟨order, S3, e3, ol, ond, opool, u3⟩ := drawn_names_ok (n := 1 + q) u2.urn (by omega)
  have h : Spc (1 + q) order near := ⟨ol, ond, fun x hx => pool_ok x (opool x hx), hnear, by omega, by omega⟩
  have u13 := (u1.trans u2).trans u3
  have w1 := written_ok h
  have w2 := make_ok h
  have hle := h.le
  change m__law_drawn_near [.c k, .p (.int ((1 + q : Nat) : Int))] S1 = .ok (.p (nearP near)) S2 at e2
  generalize hnq : 1 + q = n at *
  have hn : n ≤ 6 := by omega
  have hpos := h.pos
  have al := all_lots_ok (n := n) (by omega)
  have go : ∃ v S', m__law_right [.c k] S = .ok v S' ∧ v = .p (.bl true) := by
    unfold m__law_right b__law_right
    refine ws_mkF rfl rfl ?_
    have ea1 : pAdd (.int 1) (.int (q : Int)) = some (.int (n : Int)) := by
      rw [Mir.op_add, ← hnq, Int.natCast_add]
      rfl
    refine ws_seq (ev_asg (ev_bin ev_c (ev_fn (ev_acons (ev_var rfl) (ev_acons ev_c ev_anil)) e1) rfl rfl ea1) (ev_gnm rfl)) ?_
    refine ws_seq (by exists ev_run) ?_
    refine ws_seq (by exists ev_run) ?_
    refine ws_seqW (ws_rng (n := 10) (fun i ρ T => (∃ a3 a6 a7 a8 a9, ρ = enR k n order near a3 a6 a7 a8 a9 none) ∧ Urn T k) (ev_range1 (n := 10) ev_c (by decide)) ⟨⟨_, _, _, _, _, rfl⟩, u13.urn⟩ ?_ ?_)
    · rintro i ρ T hi ⟨⟨a3, a6, a7, a8, a9, rfl⟩, uT⟩
      refine ⟨_, _, ev_gnm rfl, ?_⟩
      have hlots : ((lotsN n).map fun l => P.lst (nums l)).length < 1000000 := by
        rw [List.length_map, lotsN_len]
        have hp : 2 ^ n ≤ 2 ^ 8 := Nat.pow_le_pow_right (by decide) (by omega)
        have h8 : 2 ^ 8 = 256 := rfl
        omega
      obtain ⟨x3, T1, ep3, hx3, u1⟩ := pick_ok (xs := (lotsN n).map fun l => P.lst (nums l)) uT (by simp [lotsN_ne]) hlots
      obtain ⟨l, hl, rfl⟩ := List.mem_map.mp hx3
      have hl := lotsN_lot n l hl
      refine ws_seq (ev_asg (ev_fn (ev_acons (ev_var rfl) (ev_acons (ev_fn (ev_acons (ev_var rfl) ev_anil) (al _)) ev_anil)) ep3) (ev_gnm rfl)) ?_
      refine ws_seq (ev_asg (ev_fn (ev_acons (ev_var rfl) (ev_acons (ev_var rfl) ev_anil)) (named_ok h.len (by omega) hl _)) (ev_gnm rfl)) ?_
      obtain ⟨f, fnd, f14, fdue, fiff, cf⟩ := law_due_ok h hl
      have hD : ∀ m ∈ madeL n near l, Lot n m := madeL_lot hl
      have hf : ∀ m ∈ f, Lot n m := fun m hm => hD m ((fiff m).mp hm)
      have lc : ∀ T, eLc (itOf (eFn m__law_made (aCons (eVar 4) (aCons (eVar 6) aNil)))) [10] (gNm 10) tsYes (eFn m__law_named (aCons (eVar 5) (aCons (eVar 10) aNil))) (enR k n order near (some (.p (.int (i : Int)))) (some (.p (.lst (nums l)))) (some (.p (setP order l))) a8 a9 none) T = .ok (.p (.lst (f.map (setP order)))) T := fun T =>
        ev_lcm (ys := f) (en := fun l => P.lst (nums l)) (ρ1 := fun m => enR k n order near (some (.p (.int (i : Int)))) (some (.p (.lst (nums l)))) (some (.p (setP order l))) a8 a9 (some (.p (.lst (nums m))))) (ev_itOf (ev_fn (ev_acons (ev_var rfl) (ev_acons (ev_var rfl) ev_anil)) (cf _)) fr_p rfl) (by omega) rfl (fun y _ => ev_gnm rfl) fun y hy => ev_fn (ev_acons (ev_var rfl) (ev_acons (ev_var rfl) ev_anil)) (named_ok h.len (by omega) (hf y hy) _)
      have et : pTuple [.lst (((f.map (pick order)).mergeSort leR).map fun t => P.tup (txts t))] = some (dueP order (madeL n near l)) := by
        rw [← fdue]
        exact op_tupL
      refine ws_seq (ev_asg (ev_call (ev_acons (ev_call (ev_acons (lc _) ev_anil) (rds_c rfl (rds_nil _)) (rows_all h hf)) ev_anil) (rds_c rfl (rds_nil _)) et) (ev_gnm rfl)) ?_
      have cm := made_ok h hl
      generalize hDD : madeL n near l = D at cm hD et fiff fdue
      have D14 : D.length ≤ 14 := by rw [← hDD]; exact madeL_len n near l
      obtain ⟨y, er, en⟩ := due_repr14 h hn hD D14
      refine ws_seq (ev_sif (ev_tval (ev_bin (ev_call (ev_acons (ev_lst (ev_acons (ev_fn (ev_acons (ev_var rfl) (ev_acons (ev_var rfl) ev_anil)) (cm _)) (ev_acons (ev_fnK ev_anil (ev_acons (ev_var rfl) (ev_acons (ev_var rfl) ev_anil)) rfl rfl rfl (cm _)) ev_anil)) (frzs_s fr_p (frzs_s fr_p frzs_z)) (by simp)) ev_anil) (rds_c rfl (rds_nil _)) er) (ev_call (ev_acons (ev_lst (ev_acons (ev_var rfl) (ev_acons (ev_var rfl) ev_anil)) (frzs_s fr_p (frzs_s fr_p frzs_z)) (by simp)) ev_anil) (rds_c rfl (rds_nil _)) er) rfl rfl en)) (ifK_f ev_pass)) ?_
      -- even; itself and its inside
      obtain ⟨j, hj1, hj7, hjl⟩ := made_even hnear hl hpos
      rw [hDD] at hjl
      have el : pLen [dueP order D] = some (.int ((2 * j : Nat) : Int)) := by
        have := op_lenTm (l := rowsR order D) (f := fun t => P.tup (txts t))
        rw [rows_len, hjl] at this
        exact this
      have b0 : D.contains l = true := List.contains_iff_mem.mpr (by rw [← hDD]; exact made_base hnear hl)
      have i0 : D.contains (insL n near l) = true := List.contains_iff_mem.mpr (by rw [← hDD]; exact made_ins hnear hl hl (made_base hnear hl))
      have o1 := op_niD h hD hl
      rw [b0] at o1
      have o2 := op_niD h hD (m := insL n near l) insLot
      rw [i0] at o2
      have ci := inside_ok h hl
      have e7 : eLst (aCons (eC (.int 2)) (aCons (eC (.int 4)) (aCons (eC (.int 6)) (aCons (eC (.int 8)) (aCons (eC (.int 10)) (aCons (eC (.int 12)) (aCons (eC (.int 14)) aNil))))))) (enR k n order near (some (.p (.int (i : Int)))) (some (.p (.lst (nums l)))) (some (.p (setP order l))) (some (.p (dueP order D))) a9 none) T1 = .ok (.p (.lst [.int 2, .int 4, .int 6, .int 8, .int 10, .int 12, .int 14])) T1 := rfl
      refine ws_seq (ev_sif (ev_tor (q := false) (ev_tval (ev_bin (ev_call (ev_acons (ev_var rfl) ev_anil) (rds_c rfl (rds_nil _)) el) e7 rfl rfl (ni_even hj1 hj7))) (orK_f (ev_tor (q := false) (ev_tval (ev_bin (ev_var rfl) (ev_var rfl) rfl rfl o1)) (orK_f (ev_tval (ev_bin (ev_meth (ev_var rfl) (by kernel_rfl) (ev_acons (ev_var rfl) ev_anil) (ci _)) (ev_var rfl) rfl rfl o2)))))) (ifK_f ev_pass)) ?_
      -- others and closures
      have lc2 : ∀ T, eLc (itOf (eVar 8)) [10] (gNm 10) (tOrM (tVal (eBin pNotIn3 (eMeth "Space" "others" m_Space_others (eVar 2) (aCons (eVar 10) aNil)) (eVar 8))) (tVal (eBin pNotIn3 (eMeth "Space" "closure" m_Space_closure (eVar 2) (aCons (eVar 10) aNil)) (eVar 8)))) (eVar 10) (enR k n order near (some (.p (.int (i : Int)))) (some (.p (.lst (nums l)))) (some (.p (setP order l))) (some (.p (dueP order D))) a9 none) T = .ok (.p (.lst (((rowsR order D).filter fun _ => false).map fun t => P.tup (txts t)))) T := fun T =>
        ev_lc (ys := rowsR order D) (en := fun t => P.tup (txts t)) (f := fun t => P.tup (txts t)) (q := fun _ => false) (ρ1 := fun t => enR k n order near (some (.p (.int (i : Int)))) (some (.p (.lst (nums l)))) (some (.p (setP order l))) (some (.p (dueP order D))) a9 (some (.p (.tup (txts t))))) (ev_itOf (ev_var rfl) fr_p rfl) (by rw [rows_len]; omega) rfl (fun y _ => ev_gnm rfl) (fun y hy => by
          obtain ⟨m, hm, rfl⟩ := mem_rows.mp hy
          have hml := hD m hm
          have c1 := others_ok h hml
          have c2 := closure_ok h hml
          have m1 : D.contains (othL n m) = true := List.contains_iff_mem.mpr (by rw [← hDD] at hm ⊢; exact made_oth hnear hl hm)
          have m2 : D.contains (closL n near m) = true := List.contains_iff_mem.mpr (by rw [← hDD] at hm ⊢; exact made_clos hnear hl hm)
          have o1 := op_niD h hD (m := othL n m) othLot
          rw [m1] at o1
          have o2 := op_niD h hD (m := closL n near m) closLot
          rw [m2] at o2
          exact ev_tor (q := false) (ev_tval (ev_bin (ev_meth (ev_var rfl) (by kernel_rfl) (ev_acons (ev_var rfl) ev_anil) (c1 _)) (ev_var rfl) rfl rfl o1)) (orK_f (ev_tval (ev_bin (ev_meth (ev_var rfl) (by kernel_rfl) (ev_acons (ev_var rfl) ev_anil) (c2 _)) (ev_var rfl) rfl rfl o2)))) fun y _ _ => ev_var rfl
      have e0 : ∀ R : List (List (List Nat)), (R.filter fun _ => false) = [] := fun R => List.filter_eq_nil_iff.mpr fun _ _ => by simp
      have en0 : pNe (.lst (([] : List (List (List Nat))).map fun t => P.tup (txts t))) (.lst []) = some (.bl false) := rfl
      have lc2' := lc2 T1
      rw [e0] at lc2'
      refine ws_seq (ev_sif (ev_tval (ev_bin lc2' (ev_lst ev_anil frzs_z (by simp)) rfl rfl en0)) (ifK_f ev_pass)) ?_
      -- another one
      have hne : (rowsR order D).map (fun t => P.tup (txts t)) ≠ [] := by
        intro z
        have := congrArg List.length z
        rw [List.length_map, rows_len, hjl] at this
        simp at this
        omega
      obtain ⟨x4, T2, ep4, hx4, u2⟩ := pick_ok (xs := (rowsR order D).map fun t => P.tup (txts t)) u1.urn hne (by rw [List.length_map, rows_len]; omega)
      obtain ⟨t, ht, rfl⟩ := List.mem_map.mp hx4
      obtain ⟨m, hm, rfl⟩ := mem_rows.mp ht
      have hml := hD m hm
      refine ws_seq (ev_asg (ev_fn (ev_acons (ev_var rfl) (ev_acons (ev_call (ev_acons (ev_var rfl) ev_anil) (rds_c rfl (rds_nil _)) op_lstT) ev_anil)) ep4) (ev_gnm rfl)) ?_
      have cm2 := made_ok h hml
      have hrm : Rch n near l m := (made_iff hnear hl).mp (by rw [hDD]; exact hm)
      have lc3 : ∀ T, eLc (itOf (eFn m_made (aCons (eVar 2) (aCons (eVar 9) aNil)))) [10] (gNm 10) (tVal (eBin pNotIn3 (eVar 10) (eVar 8))) (eVar 10) (enR k n order near (some (.p (.int (i : Int)))) (some (.p (.lst (nums l)))) (some (.p (setP order l))) (some (.p (dueP order D))) (some (.p (setP order m))) none) T = .ok (.p (.lst (((rowsR order (madeL n near m)).filter fun _ => false).map fun t => P.tup (txts t)))) T := fun T =>
        ev_lc (ys := rowsR order (madeL n near m)) (en := fun t => P.tup (txts t)) (f := fun t => P.tup (txts t)) (q := fun _ => false) (ρ1 := fun t => enR k n order near (some (.p (.int (i : Int)))) (some (.p (.lst (nums l)))) (some (.p (setP order l))) (some (.p (dueP order D))) (some (.p (setP order m))) (some (.p (.tup (txts t))))) (ev_itOf (ev_fn (ev_acons (ev_var rfl) (ev_acons (ev_var rfl) ev_anil)) (cm2 _)) fr_p rfl) (by rw [rows_len]; exact Nat.le_trans (madeL_len n near m) (by decide)) rfl (fun y _ => ev_gnm rfl) (fun y hy => by
          obtain ⟨p, hp, rfl⟩ := mem_rows.mp hy
          have hpl := madeL_lot hml p hp
          have m1 : D.contains p = true := List.contains_iff_mem.mpr (by rw [← hDD]; exact (made_iff hnear hl).mpr (hrm.trans ((made_iff hnear hml).mp hp)))
          have o1 := op_niD h hD hpl
          rw [m1] at o1
          exact ev_tval (ev_bin (ev_var rfl) (ev_var rfl) rfl rfl o1)) fun y _ _ => ev_var rfl
      have lc3' := lc3 T2
      rw [e0] at lc3'
      have hol : Lot n (othL n l) := othLot
      have cm3 := made_ok h hol
      have eqd : dueP order (madeL n near (othL n l)) = dueP order D := by
        rw [← hDD]
        refine due_perm (perm_of made_nd made_nd fun p => ?_)
        rw [made_iff hnear hol, made_iff hnear hl]
        constructor
        · exact fun z => (Rch.oth .base).trans z
        · intro z
          have hb : Rch n near (othL n l) l := by
            have : Rch n near (othL n l) (othL n (othL n l)) := .oth .base
            rwa [oth_oth hl] at this
          exact hb.trans z
      rw [eqd] at cm3
      have nd3 : pNe (dueP order D) (dueP order D) = some (.bl false) := op_neX (due_dat h hD 58)
      have co := others_ok h hl
      refine ws_of (ev_sif (ev_tor (q := false) (ev_tval (ev_bin lc3' (ev_lst ev_anil frzs_z (by simp)) rfl rfl en0)) (orK_f (ev_tval (ev_bin (ev_fn (ev_acons (ev_var rfl) (ev_acons (ev_meth (ev_var rfl) (by kernel_rfl) (ev_acons (ev_var rfl) ev_anil) (co _)) ev_anil)) (cm3 _)) (ev_var rfl) rfl rfl nd3)))) (ifK_f ev_pass)) ⟨_, .inl rfl, ⟨_, _, _, _, _, rfl⟩, (u1.trans u2).urn⟩
    · rintro ρ' T ⟨⟨a3, a6, a7, a8, a9, rfl⟩, uT⟩
      have l0 : Lot n [] := ⟨.nil, fun e he => by cases he⟩
      have l1 : Lot n (List.range n) := ⟨range_sorted n, fun e he => List.mem_range.mp he⟩
      have c0 := made_ok h l0
      have eo : setP order (List.range n) = .tup (txts order) := by
        unfold setP
        rw [← order_pick h]
      have er : List.range n = othL n [] := lot_ext l1 othLot fun i hi => by rw [mem_oth, List.mem_range]; simp
      have two : ∀ m, Rch n near [] m → m = [] ∨ m = List.range n := by
        intro m hm
        induction hm with
        | base => exact .inl rfl
        | clos _ ih =>
          rcases ih with rfl | rfl
          · exact .inl clos_nil
          · exact .inr (lot_ext closLot l1 fun i hi => by rw [mem_clos, List.mem_range]; exact ⟨fun _ => hi, fun _ => ⟨hi, i, hnear.rfl_ i hi, List.mem_range.mpr hi⟩⟩)
        | oth _ ih =>
          rcases ih with rfl | rfl
          · exact .inr er.symm
          · refine .inl (lot_ext othLot l0 fun i hi => ?_)
            rw [mem_oth, List.mem_range]
            simp
      have hne : ([] : List Nat) ≠ List.range n := fun z => by
        have := congrArg List.length z
        rw [List.length_range] at this
        simp at this
        omega
      have ed : dueP order (madeL n near []) = dueP order [[], List.range n] := due_perm (perm_of made_nd (by simp [hne]) fun m => by
        rw [made_iff hnear l0]
        constructor
        · intro z
          rcases two m z with rfl | rfl <;> simp
        · intro z
          have : m = [] ∨ m = List.range n := by simpa using z
          rcases this with rfl | rfl
          · exact .base
          · rw [er]
            exact .oth .base)
      rw [ed] at c0
      have h2 : ∀ b ∈ [[], List.range n], Lot n b := fun b hb => by
        have : b = [] ∨ b = List.range n := by simpa using hb
        rcases this with rfl | rfl
        · exact l0
        · exact l1
      have ra := rows_all h h2
      have em : ([[], List.range n] : List (List Nat)).map (setP order) = [.tup [], .tup (txts order)] := by
        show [setP order [], setP order (List.range n)] = _
        rw [eo]
        rfl
      rw [em] at ra
      have fin : pEq (dueP order [[], List.range n]) (dueP order [[], List.range n]) = some (.bl true) := op_eqX (due_dat h h2 58)
      exact ⟨_, rfl, ws_of (ev_ret (ev_bin (ev_fn (ev_acons (ev_var rfl) (ev_acons (ev_tup ev_anil frzs_z (by simp)) ev_anil)) (c0 _)) (ev_call (ev_acons (ev_call (ev_acons (ev_lst (ev_acons (ev_tup ev_anil frzs_z (by simp)) (ev_acons (ev_call (ev_acons (ev_var rfl) ev_anil) (rds_c rfl (rds_nil _)) op_tupL) ev_anil)) (frzs_s fr_p (frzs_s fr_p frzs_z)) (by simp)) ev_anil) (rds_c rfl (rds_nil _)) ra) ev_anil) (rds_c rfl (rds_nil _)) op_tupL) rfl rfl fin)) ⟨_, _, rfl, rfl⟩⟩
  obtain ⟨v, S', e, rfl⟩ := go
  exact ⟨S', e⟩
end Law

namespace Law
open PySem L2 Mir Pl
theorem all_ok (ns : List Int) (hn : ns.length ≤ 63) : ∃ S', m_law [.p (.scr (ns.map Mir.P.int))] [] = .ok (.p (.bl true)) S' := by
  unfold m_law b_law
  exact law_end (K := 4) (by decide) (by decide) (fun S k hu => right_ok hu) (fun t S ht => let ⟨S', e, u, _⟩ := urn_of_ok hn ht S; ⟨S', e, u⟩) rfl []
end Law
open PySem PySem.W PyProof.Rows
theorem PySem.Challenge.cw_closedinner_k17_whole_sets_made_by_words_holds : PySem.Challenge.rw_closedinner_k17_whole_sets_made_by_words.Holds := by
  exact law_of Law.all_ok

