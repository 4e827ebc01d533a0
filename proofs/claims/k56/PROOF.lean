import PyProof.Rows.All
import PySem.Challenge.RW_takeback_k56_next_deeds_refused
import Wide.All
import OpenK.AllK
import Wide.FinOn
import HandS.ForMost
import HandS.Walk
import KE.KDictKeyed
import KE.KDictDisplayH
import KE.KeyNested
import HandS.Dict
import HandS.Wide
import HandS.Style
import HandS.IsInst
import HandS.Exc
import HandS.WordsExc
import HandS.Conv
import HandS.SortInts
import HandS.SetFor
import HandS.Deep
import HandS.Small
import HandS.TupAny
import HandS.Zip
import KE.KUnpack
import KE.DataFind
import HandS.TupLen
import HandS.DictComp
import HandS.WordsDict
import HandS.SetBool
import HandS.More
import HandS.ExcInit
import HandS.ExcField
import HandS.ExcOwn
import HandS.ExcIs
import KE.KExcIs
import KE.KIsAll
import HandS.ClsMeth
import HandS.Words
import HandS.TryOnly
import HandS.HotCalls
import HandS.TryMany
set_option Elab.async false
set_option linter.all false
set_option maxRecDepth 100000
set_option maxHeartbeats 4000000
set_option autoImplicit false
set_option exponentiation.threshold 20000
namespace Nv
open PySem PySem.Spec PyProof.Rows L2

/-! data, cells, results -/
inductive D where
  | non
  | bl (b : Bool)
  | int (i : Int)
  | str (x : Str)
  | lst (xs : List D)
  | tup (xs : List D)
  | cell (i : Nat)
  | edct
  | fn (a : Addr)
  | exc (c : Str) (f : Str) (vs : List D)
inductive Cell where
  | lst (xs : List D)
  | dk (kvs : List (Key × D))
  | dt (kvs : List (List Key × D))
  | fz (xs : List D)
  | dn (kvs : List (NestedKey × D))
  | obj (c : Str) (fs : List (Str × D))
  | lk (kvs : List (Key × D))
def Cell.isFz : Cell → Bool
  | .fz _ => true
  | .lk _ => true
  | _ => false
structure Exn where
  cls : Str
  fld : Option (Str × D)
abbrev Sl := List (Option D)
abbrev Store := List Cell
inductive R (α : Type) where
  | ok (a : α)
  | ex (x : Exn) (C : Store)
  | no
def R.bind {α β : Type} : R α → (α → R β) → R β
  | .ok a, f => f a
  | .ex x C, _ => .ex x C
  | .no, _ => .no
theorem R.bind_ok {α β : Type} (a : α) (f : α → R β) : (R.ok a).bind f = f a := rfl
abbrev RE := R (D × Store)
abbrev ME := Sl → Store → RE

/-! keys that nest, without texts -/
mutual
def keyN : D → Option NestedKey
  | .non => some .none
  | .bl b => some (.num (if b then 1 else 0))
  | .int i => some (.num i)
  | .tup ds => (keysN ds).map .tup
  | .str _ => none
  | .lst _ => none
  | .cell _ => none
  | .edct => none
  | .fn _ => none
  | .exc _ _ _ => none
def keysN : List D → Option (List NestedKey)
  | [] => some []
  | d :: ds => (keyN d).bind fun k => (keysN ds).map (k :: ·)
end
mutual
def hash0 : NestedKey → Int
  | .none => reduceHash 0xFCA86420
  | .num i => hashInt i
  | .text _ => 0
  | .tup ks => reduceHash (Builtin.Tuple.tupleHashOf (hashes0 ks))
def hashes0 : List NestedKey → List Int
  | [] => []
  | k :: ks => hash0 k :: hashes0 ks
end
mutual
def noTx : NestedKey → Bool
  | .none => true
  | .num _ => true
  | .text _ => false
  | .tup ks => noTxs ks
def noTxs : List NestedKey → Bool
  | [] => true
  | k :: ks => noTx k && noTxs ks
end
mutual
theorem hash0_eq (w : World) : ∀ k : NestedKey, noTx k = true → k.hash w = hash0 k
  | .none, _ => rfl
  | .num _, _ => rfl
  | .text _, h => nomatch h
  | .tup ks, h => by
    show reduceHash (Builtin.Tuple.tupleHashOf (NestedKey.hashes w ks)) = reduceHash (Builtin.Tuple.tupleHashOf (hashes0 ks))
    rw [hashes0_eq w ks h]
theorem hashes0_eq (w : World) : ∀ ks : List NestedKey, noTxs ks = true → NestedKey.hashes w ks = hashes0 ks
  | [], _ => rfl
  | k :: ks, h => by
    have h : (noTx k && noTxs ks) = true := h
    rw [Bool.and_eq_true] at h
    show NestedKey.hash w k :: NestedKey.hashes w ks = hash0 k :: hashes0 ks
    rw [hash0_eq w k h.1, hashes0_eq w ks h.2]
end
mutual
theorem keyN_tx : ∀ (d : D) {k : NestedKey}, keyN d = some k → noTx k = true
  | .non, _, e => by cases e; rfl
  | .bl _, _, e => by cases e; rfl
  | .int _, _, e => by cases e; rfl
  | .tup ds, k, e => by
    have e : (keysN ds).map NestedKey.tup = some k := e
    cases h : keysN ds with
    | none => rw [h] at e; cases e
    | some ks =>
      rw [h] at e
      cases e
      exact keysN_tx ds h
  | .str _, _, e => nomatch e
  | .lst _, _, e => nomatch e
  | .cell _, _, e => nomatch e
  | .edct, _, e => nomatch e
  | .fn _, _, e => nomatch e
  | .exc _ _ _, _, e => nomatch e
theorem keysN_tx : ∀ (ds : List D) {ks : List NestedKey}, keysN ds = some ks → noTxs ks = true
  | [], _, e => by cases e; rfl
  | d :: ds, ks, e => by
    have e : (keyN d).bind (fun k => (keysN ds).map (k :: ·)) = some ks := e
    cases h : keyN d with
    | none => rw [h] at e; cases e
    | some k =>
      rw [h, Option.bind_some] at e
      cases g : keysN ds with
      | none => rw [g] at e; cases e
      | some ks' =>
        rw [g] at e
        cases e
        show (noTx k && noTxs ks') = true
        rw [keyN_tx d h, keysN_tx ds g]
        rfl
end
def entN (y : NestedKey × Addr × Value) : DictEntry := ⟨hash0 y.1, .ref y.2.1, y.2.2⟩
def NDφ (a : Addr) (xs : List (NestedKey × Addr × V)) (h : Heap) : Prop :=
  (a == sysModules) = false ∧ (∀ x ∈ xs, noTx x.1 = true) ∧ xs.length ≤ sizeLine ∧ ∃ ys : List (NestedKey × Addr × Value), Paired (fun x y => x.1 = y.1 ∧ x.2.1 = y.2.1 ∧ RelV x.2.2 y.2.2) xs ys ∧
    ∃ o es ep, h.get? a = some o ∧ o.ExactDict ∧ o.data = .dict es ep ∧ es.toList = ys.map entN ∧ (ys.map (·.1)).Nodup
abbrev ND (a : Addr) (xs : List (NestedKey × Addr × V)) : HO := .ext (NDφ a xs)
/-- an exception's object, its class, its dict -/
def excφ (a C : Addr) (d : Option Addr) (h : Heap) : Prop := ∃ oe : Obj, h.get? a = some oe ∧ oe.cls = .ref C ∧ oe.dict = d ∧ ∃ vs, oe.data = .fields vs
def ExAt (F : Hp) (a C : Addr) (f : Str) (us : List V) : Prop := ∃ d : Option Addr, F a = some (.ext (excφ a C d)) ∧ ((us = [] ∧ d = none) ∨ ∃ (u : V) (dd : Addr), us = [u] ∧ d = some dd ∧ F dd = some (.xd [(f, u)]))
theorem ExAt.mono {F F' : Hp} {a C : Addr} {f : Str} {us : List V} (e : Same F F') (h : ExAt F a C f us) : ExAt F' a C f us := by
  obtain ⟨d, h1, h2⟩ := h
  refine ⟨d, e _ _ h1, ?_⟩
  rcases h2 with h2 | ⟨u, dd, h3, h4, h5⟩
  · exact .inl h2
  · exact .inr ⟨u, dd, h3, h4, e _ _ h5⟩
/-! what represents what -/
mutual
def Rep (K : PySem.W.Frag) (F : Hp) (r : List Addr) : D → V → Prop
  | .non, v => v = .non
  | .bl b, v => v = .bl b
  | .int i, v => v = .int i
  | .str x, v => v = .str x
  | .lst ds, v => ∃ a vs, v = .ref a ∧ SqL K F a vs ∧ Reps K F r ds vs
  | .tup ds, v => ∃ a vs, v = .ref a ∧ SqT K F a vs ∧ Reps K F r ds vs
  | .cell i, v => ∃ a, v = .ref a ∧ r[i]? = some a
  | .edct, v => ∃ a, v = .ref a ∧ F a = some (.dK [])
  | .fn a, v => v = .ref a
  | .exc c f ds, v => ∃ (a C : Addr) (us : List V), v = .ref a ∧ PySem.W.nsIn K mainGlobals c = some (some (.ref C)) ∧ ExAt F a C f us ∧ Reps K F r ds us
def Reps (K : PySem.W.Frag) (F : Hp) (r : List Addr) : List D → List V → Prop
  | [], vs => vs = []
  | d :: ds, vs => ∃ v w, vs = v :: w ∧ Rep K F r d v ∧ Reps K F r ds w
end
def Ex (r r' : List Addr) : Prop := ∀ (i : Nat) (a : Addr), r[i]? = some a → r'[i]? = some a
theorem Ex.refl (r : List Addr) : Ex r r := fun _ _ h => h
theorem Ex.trans {r r1 r2 : List Addr} (h : Ex r r1) (k : Ex r1 r2) : Ex r r2 := fun i a e => k i a (h i a e)
theorem Ex.app (r t : List Addr) : Ex r (r ++ t) := fun i a e => by
  rw [List.getElem?_append_left (List.getElem?_eq_some_iff.mp e).1]
  exact e
theorem Same.tup {K : PySem.W.Frag} {H H' : Hp} {a : Addr} {xs : List V} (e : Same H H') (h : SqT K H a xs) : SqT K H' a xs := by
  rcases h with (h | ⟨o, h⟩) | h
  · exact .inl (.inl (e _ _ h))
  · exact .inl (.inr ⟨o, e _ _ h⟩)
  · exact .inr h
section
variable {K : PySem.W.Frag} {B F F' H H' : Hp} {r r' : List Addr} {C : Store}
mutual
theorem Rep.mono (hF : Same F F') (hr : Ex r r') : ∀ {d : D} {v : V}, Rep K F r d v → Rep K F' r' d v
  | .non, _, h => h
  | .bl _, _, h => h
  | .int _, _, h => h
  | .str _, _, h => h
  | .lst ds, _, h => by
    obtain ⟨a, vs, e, s, q⟩ := h
    exact ⟨a, vs, e, hF.seq s, Reps.mono hF hr q⟩
  | .tup ds, _, h => by
    obtain ⟨a, vs, e, s, q⟩ := h
    exact ⟨a, vs, e, Same.tup hF s, Reps.mono hF hr q⟩
  | .cell i, _, h => by
    obtain ⟨a, e, q⟩ := h
    exact ⟨a, e, hr _ _ q⟩
  | .edct, _, h => by
    obtain ⟨a, e, q⟩ := h
    exact ⟨a, e, hF _ _ q⟩
  | .fn _, _, h => h
  | .exc c f ds, _, h => by
    obtain ⟨a, C, us, e, h1, h2, q⟩ := h
    exact ⟨a, C, us, e, h1, h2.mono hF, Reps.mono hF hr q⟩
theorem Reps.mono (hF : Same F F') (hr : Ex r r') : ∀ {ds : List D} {vs : List V}, Reps K F r ds vs → Reps K F' r' ds vs
  | [], _, h => h
  | d :: ds, _, h => by
    obtain ⟨v, w, e, h1, h2⟩ := h
    exact ⟨v, w, e, Rep.mono hF hr h1, Reps.mono hF hr h2⟩
end
theorem Reps.length : ∀ {ds : List D} {vs : List V}, Reps K F r ds vs → ds.length = vs.length
  | [], _, h => by cases (show _ = [] from h); rfl
  | d :: ds, _, h => by
    obtain ⟨v, w, rfl, _, h2⟩ := h
    simp [Reps.length h2]
theorem Reps.get : ∀ {ds : List D} {vs : List V} {i : Nat} {d : D}, Reps K F r ds vs → ds[i]? = some d → ∃ v, vs[i]? = some v ∧ Rep K F r d v
  | [], _, _, _, _, e => by simp at e
  | d :: ds, _, 0, _, h, e => by
    obtain ⟨v, w, rfl, h1, _⟩ := h
    simp at e
    subst e
    exact ⟨v, rfl, h1⟩
  | d :: ds, _, i + 1, _, h, e => by
    obtain ⟨v, w, rfl, _, h2⟩ := h
    simp at e
    obtain ⟨v', q1, q2⟩ := Reps.get h2 e
    exact ⟨v', by simpa using q1, q2⟩
theorem Reps.nil : Reps K F r [] [] := rfl
theorem Reps.cons {d : D} {v : V} {ds : List D} {vs : List V} (h : Rep K F r d v) (t : Reps K F r ds vs) : Reps K F r (d :: ds) (v :: vs) := ⟨v, vs, rfl, h, t⟩
theorem Reps.append : ∀ {ds es : List D} {vs ws : List V}, Reps K F r ds vs → Reps K F r es ws → Reps K F r (ds ++ es) (vs ++ ws)
  | [], _, _, _, h, k => by cases (show _ = [] from h); exact k
  | d :: ds, _, _, _, h, k => by
    obtain ⟨v, w, rfl, h1, h2⟩ := h
    exact .cons h1 (Reps.append h2 k)
theorem Reps.one {d : D} {v : V} (h : Rep K F r d v) : Reps K F r [d] [v] := .cons h .nil
theorem Reps.set {d : D} {v : V} (h : Rep K F r d v) : ∀ {ds : List D} {vs : List V} (i : Nat), Reps K F r ds vs → Reps K F r (ds.set i d) (vs.set i v)
  | [], _, _, k => by cases (show _ = [] from k); exact .nil
  | _ :: _, _, 0, k => by
    obtain ⟨v, w, rfl, h1, h2⟩ := k
    exact .cons h h2
  | _ :: _, _, i + 1, k => by
    obtain ⟨v, w, rfl, h1, h2⟩ := k
    exact .cons h1 (Reps.set h i h2)
theorem Reps.take : ∀ {ds : List D} {vs : List V} (n : Nat), Reps K F r ds vs → Reps K F r (ds.take n) (vs.take n)
  | _, _, 0, _ => .nil
  | [], _, n + 1, h => by cases (show _ = [] from h); exact .nil
  | _ :: _, _, n + 1, h => by
    obtain ⟨v, w, rfl, h1, h2⟩ := h
    exact .cons h1 (Reps.take n h2)
theorem Reps.drop : ∀ {ds : List D} {vs : List V} (n : Nat), Reps K F r ds vs → Reps K F r (ds.drop n) (vs.drop n)
  | _, _, 0, h => h
  | [], _, n + 1, h => by cases (show _ = [] from h); exact .nil
  | _ :: _, _, n + 1, h => by
    obtain ⟨v, w, rfl, h1, h2⟩ := h
    exact Reps.drop n h2
theorem Reps.rep {ds : List D} {vs : List V} (h : Reps K F r ds vs) : ∀ k : Nat, Reps K F r (List.replicate k ds).flatten (List.replicate k vs).flatten
  | 0 => .nil
  | k + 1 => by
    simp only [List.replicate_succ, List.flatten_cons]
    exact h.append (h.rep k)
theorem Reps.ints : ∀ {ns : List Int} {vs : List V}, Reps K F r (ns.map D.int) vs → vs = ns.map V.int
  | [], _, h => h
  | n :: ns, _, h => by
    obtain ⟨v, w, rfl, h1, h2⟩ := h
    rw [Reps.ints h2, show v = V.int n from h1]
    rfl
theorem Reps.ofInts : ∀ (ns : List Int), Reps K F r (ns.map D.int) (ns.map V.int)
  | [] => rfl
  | n :: ns => .cons rfl (Reps.ofInts ns)

/-! the state -/
def CellOk (K : PySem.W.Frag) (F : Hp) (r : List Addr) (H : Hp) (a : Addr) : Cell → Prop
  | .lst ds => F a = none ∧ ∃ vs, H a = some (.lst vs) ∧ Reps K F r ds vs
  | .dk kvs => F a = none ∧ ∃ vs, H a = some (.dK vs) ∧ kvs.map (·.1) = vs.map (·.1) ∧ Reps K F r (kvs.map (·.2)) (vs.map (·.2))
  | .dt kvs => F a = none ∧ ∃ vs, H a = some (.dT vs) ∧ kvs.map (·.1) = vs.map (·.1) ∧ Reps K F r (kvs.map (·.2)) (vs.map (·.2))
  | .fz ds => ∃ vs, F a = some (.lst vs) ∧ Reps K F r ds vs
  | .dn kvs => F a = none ∧ ∃ xs, H a = some (ND a xs) ∧ kvs.map (·.1) = xs.map (·.1) ∧ Reps K F r (kvs.map (·.2)) (xs.map (·.2.2)) ∧ ∀ x ∈ xs, ∃ d, keyN d = some x.1 ∧ x.1.depth ≤ 8 ∧ Rep K F r d (.ref x.2.1)
  | .obj c fs => F a = none ∧ ∃ (C dx : Addr) (gs : List (Str × V)), PySem.W.nsIn K mainGlobals c = some (some (.ref C)) ∧ H a = some (.ins C dx gs) ∧ fs.map (·.1) = gs.map (·.1) ∧ Reps K F r (fs.map (·.2)) (gs.map (·.2))
  | .lk kvs => ∃ o vs, F a = some (.frz o (.dK vs)) ∧ kvs.map (·.1) = vs.map (·.1) ∧ Reps K F r (kvs.map (·.2)) (vs.map (·.2))
structure Rel (K : PySem.W.Frag) (B F : Hp) (r : List Addr) (H : Hp) (C : Store) : Prop where
  froz : Same F H
  base : Same B H
  apart : ∀ (a : Addr) (o : HO), B a = some o → F a = none
  offB : ∀ (i : Nat) (a : Addr), r[i]? = some a → B a = none
  len : r.length = C.length
  cells : ∀ (i : Nat) (c : Cell) (a : Addr), C[i]? = some c → r[i]? = some a → CellOk K F r H a c
  inj : ∀ (i j : Nat) (a : Addr), r[i]? = some a → r[j]? = some a → i = j
def Sls (K : PySem.W.Frag) (F : Hp) (r : List Addr) (sl : Sl) (s : L2.St) : Prop :=
  s.length = sl.length ∧ ∀ (i : Nat) (d : D), sl[i]? = some (some d) → ∃ v, s[i]? = some (some v) ∧ Rep K F r d v
theorem Sls.mono {sl : Sl} {s : L2.St} (h : Sls K F r sl s) (hF : Same F F') (hr : Ex r r') : Sls K F' r' sl s :=
  ⟨h.1, fun i d e => let ⟨v, q1, q2⟩ := h.2 i d e; ⟨v, q1, q2.mono hF hr⟩⟩
theorem CellOk.mono {a : Addr} {c : Cell} (hr : Ex r r') (hF : Same F F') (hn : F' a = none ∨ c.isFz = true) (hH : ∀ o, H a = some o → H' a = some o) (h : CellOk K F r H a c) : CellOk K F' r' H' a c := by
  cases c with
  | lst ds =>
    obtain ⟨h1, vs, h2, h3⟩ := h
    exact ⟨hn.resolve_right (by intro z; cases z), vs, hH _ h2, h3.mono hF hr⟩
  | dk kvs =>
    obtain ⟨h1, vs, h2, h3, h4⟩ := h
    exact ⟨hn.resolve_right (by intro z; cases z), vs, hH _ h2, h3, h4.mono hF hr⟩
  | dt kvs =>
    obtain ⟨h1, vs, h2, h3, h4⟩ := h
    exact ⟨hn.resolve_right (by intro z; cases z), vs, hH _ h2, h3, h4.mono hF hr⟩
  | fz ds =>
    obtain ⟨vs, h1, h2⟩ := h
    exact ⟨vs, hF _ _ h1, h2.mono hF hr⟩
  | dn kvs =>
    obtain ⟨h1, xs, h2, h3, h4, h5⟩ := h
    exact ⟨hn.resolve_right (by intro z; cases z), xs, hH _ h2, h3, h4.mono hF hr, fun x hx => let ⟨d, k1, k2, k3⟩ := h5 x hx; ⟨d, k1, k2, k3.mono hF hr⟩⟩
  | obj c fs =>
    obtain ⟨h1, C, dx, gs, h2, h3, h4, h5⟩ := h
    exact ⟨hn.resolve_right (by intro z; cases z), C, dx, gs, h2, hH _ h3, h4, h5.mono hF hr⟩
  | lk kvs =>
    obtain ⟨o, vs, h1, h2, h3⟩ := h
    exact ⟨o, vs, hF _ _ h1, h2, h3.mono hF hr⟩
theorem CellOk.there {a : Addr} {c : Cell} (hF : Same F H) (h : CellOk K F r H a c) : ∃ o, H a = some o := by
  cases c with
  | lst ds => obtain ⟨h1, vs, h2, h3⟩ := h; exact ⟨_, h2⟩
  | dk kvs => obtain ⟨h1, vs, h2, h3⟩ := h; exact ⟨_, h2⟩
  | dt kvs => obtain ⟨h1, vs, h2, h3⟩ := h; exact ⟨_, h2⟩
  | fz ds => obtain ⟨vs, h1, h2⟩ := h; exact ⟨_, hF _ _ h1⟩
  | dn kvs => obtain ⟨h1, xs, h2, h3⟩ := h; exact ⟨_, h2⟩
  | obj c fs => obtain ⟨h1, C, dx, gs, h2, h3, h4⟩ := h; exact ⟨_, h3⟩
  | lk kvs => obtain ⟨o, vs, h1, h2, h3⟩ := h; exact ⟨_, hF _ _ h1⟩
theorem CellOk.notF {a : Addr} {c : Cell} (h : CellOk K F r H a c) : F a = none ∨ c.isFz = true := by
  cases c with
  | lst ds => exact .inl h.1
  | dk kvs => exact .inl h.1
  | dt kvs => exact .inl h.1
  | fz ds => exact .inr rfl
  | dn kvs => exact .inl h.1
  | obj c fs => exact .inl h.1
  | lk kvs => exact .inr rfl
theorem Rel.cellAt (h : Rel K B F r H C) {i : Nat} {a : Addr} (e : r[i]? = some a) : ∃ c, C[i]? = some c ∧ CellOk K F r H a c := by
  have hi : i < C.length := by
    rw [← h.len]
    exact (List.getElem?_eq_some_iff.mp e).1
  exact ⟨C[i], List.getElem?_eq_getElem hi, h.cells i _ a (List.getElem?_eq_getElem hi) e⟩
theorem Rel.addrAt (h : Rel K B F r H C) {i : Nat} {c : Cell} (e : C[i]? = some c) : ∃ a, r[i]? = some a ∧ CellOk K F r H a c := by
  have hi : i < r.length := by
    rw [h.len]
    exact (List.getElem?_eq_some_iff.mp e).1
  exact ⟨r[i], List.getElem?_eq_getElem hi, h.cells i c _ e (List.getElem?_eq_getElem hi)⟩
theorem Rel.notin (h : Rel K B F r H C) {p : Addr} (hp : H p = none) {i : Nat} {a : Addr} (e : r[i]? = some a) : a ≠ p := by
  obtain ⟨c, _, q⟩ := h.cellAt e
  obtain ⟨o, ho⟩ := q.there h.froz
  exact ne_of_none ho hp
theorem Rel.freeF (h : Rel K B F r H C) {p : Addr} (hp : H p = none) : F p = none := Same.free h.froz hp
theorem same_new {H : Hp} {p : Addr} {o : HO} (h : H p = none) : Same H (upd H p o) := fun b x e => by
  rw [upd_ne (ne_of_none e h)]
  exact e
/-- a new frozen object -/
theorem Rel.freeze (h : Rel K B F r H C) {p : Addr} {o : HO} (hp : H p = none) : Rel K B (upd F p o) r (upd H p o) C where
  froz := fun b x e => by
    by_cases hb : b = p
    · subst hb
      rw [upd_same] at e ⊢
      exact e
    · rw [upd_ne hb] at e ⊢
      exact h.froz b x e
  base := h.base.trans (same_new hp)
  apart := fun a x e => by
    rw [upd_ne (ne_of_none (h.base a x e) hp)]
    exact h.apart a x e
  offB := h.offB
  len := h.len
  cells := fun i c a e1 e2 => by
    have hne := h.notin hp e2
    have q := h.cells i c a e1 e2
    refine q.mono (.refl r) (same_new (h.freeF hp)) ?_ fun o ho => by rw [upd_ne hne]; exact ho
    rw [upd_ne hne]
    exact q.notF
  inj := h.inj
/-- an object of nobody's is new, not tracked by us -/
theorem Rel.junk (h : Rel K B F r H C) {p : Addr} {o : HO} (hp : H p = none) : Rel K B F r (upd H p o) C where
  froz := fun b x e => by
    rw [upd_ne (ne_of_none (h.froz b x e) hp)]
    exact h.froz b x e
  base := h.base.trans (same_new hp)
  apart := h.apart
  offB := h.offB
  len := h.len
  cells := fun i c a e1 e2 => by
    have hne := h.notin hp e2
    have q := h.cells i c a e1 e2
    exact q.mono (.refl r) (.refl F) q.notF fun o ho => by rw [upd_ne hne]; exact ho
  inj := h.inj
/-- a new cell -/
theorem Rel.alloc (h : Rel K B F r H C) {p : Addr} {o : HO} {c : Cell} (hp : H p = none) (hc : CellOk K F (r ++ [p]) (upd H p o) p c) : Rel K B F (r ++ [p]) (upd H p o) (C ++ [c]) where
  froz := (h.junk hp).froz
  base := (h.junk hp).base
  apart := h.apart
  offB := fun i a e => by
    by_cases hi : i < r.length
    · rw [List.getElem?_append_left hi] at e
      exact h.offB i a e
    · rw [List.getElem?_append_right (by omega)] at e
      have e : p = a := by
        cases hj : i - r.length with
        | zero => rw [hj] at e; simpa using e
        | succ n => rw [hj] at e; simp at e
      subst e
      exact Same.free h.base hp
  len := by simp [h.len]
  cells := fun i c' a e1 e2 => by
    by_cases hi : i < r.length
    · rw [List.getElem?_append_left hi] at e2
      rw [List.getElem?_append_left (by rw [← h.len]; exact hi)] at e1
      exact ((h.junk (o := o) hp).cells i c' a e1 e2).mono (Ex.app r [p]) (.refl F) ((h.junk (o := o) hp).cells i c' a e1 e2).notF fun _ q => q
    · have hl : i < (r ++ [p]).length := (List.getElem?_eq_some_iff.mp e2).1
      have hi2 : i = r.length := by simp at hl; omega
      subst hi2
      rw [List.getElem?_append_right (Nat.le_refl _)] at e2
      rw [h.len, List.getElem?_append_right (Nat.le_refl _)] at e1
      simp at e1 e2
      subst e1 e2
      exact hc
  inj := fun i j a e1 e2 => by
    have hl1 : i < (r ++ [p]).length := (List.getElem?_eq_some_iff.mp e1).1
    have hl2 : j < (r ++ [p]).length := (List.getElem?_eq_some_iff.mp e2).1
    simp at hl1 hl2
    by_cases hi : i < r.length
    · rw [List.getElem?_append_left hi] at e1
      by_cases hj : j < r.length
      · rw [List.getElem?_append_left hj] at e2
        exact h.inj i j a e1 e2
      · have : j = r.length := by omega
        subst this
        rw [List.getElem?_append_right (Nat.le_refl _)] at e2
        simp at e2
        exact absurd e2.symm (h.notin hp e1)
    · have : i = r.length := by omega
      subst this
      rw [List.getElem?_append_right (Nat.le_refl _)] at e1
      simp at e1
      by_cases hj : j < r.length
      · rw [List.getElem?_append_left hj] at e2
        exact absurd e1.symm (h.notin hp e2)
      · omega
/-- a cell written -/
theorem Rel.write (h : Rel K B F r H C) {i : Nat} {a : Addr} {o : HO} {c : Cell} (e : r[i]? = some a) (hn : F a = none) (hc : CellOk K F r (upd H a o) a c) : Rel K B F r (upd H a o) (C.set i c) where
  froz := fun b x q => by
    rw [upd_ne (ne_of_none q hn)]
    exact h.froz b x q
  base := fun b x q => by
    rw [upd_ne (ne_of_none q (h.offB i a e))]
    exact h.base b x q
  apart := h.apart
  offB := h.offB
  len := by simp [h.len]
  cells := fun j c' b e1 e2 => by
    by_cases hj : j = i
    · subst hj
      rw [e] at e2
      cases e2
      rw [List.getElem?_set_self (by rw [← h.len]; exact (List.getElem?_eq_some_iff.mp e).1)] at e1
      cases e1
      exact hc
    · rw [List.getElem?_set_ne (Ne.symm hj)] at e1
      have hba : b ≠ a := fun z => hj (h.inj j i b e2 (z ▸ e))
      have q := h.cells j c' b e1 e2
      exact q.mono (.refl r) (.refl F) q.notF fun o ho => by rw [upd_ne hba]; exact ho
  inj := h.inj
/-- a cell frozen for good -/
theorem Rel.kill (h : Rel K B F r H C) {i : Nat} {a : Addr} {vs : List V} {ds : List D} (e : r[i]? = some a) (hn : F a = none) (ho : H a = some (.lst vs)) (hd : Reps K F r ds vs) : Rel K B (upd F a (.lst vs)) r H (C.set i (.fz ds)) ∧ Same F (upd F a (.lst vs)) := by
  refine ⟨⟨fun b x q => ?_, h.base, fun b x q => ?_, h.offB, by simp [h.len], fun j c' b e1 e2 => ?_, h.inj⟩, same_new hn⟩
  · by_cases hb : b = a
    · subst hb
      rw [upd_same] at q
      rw [← q]
      exact ho
    · rw [upd_ne hb] at q
      exact h.froz b x q
  · rw [upd_ne (ne_of_none q (h.offB i a e))]
    exact h.apart b x q
  · by_cases hj : j = i
    · subst hj
      rw [e] at e2
      cases e2
      rw [List.getElem?_set_self (by rw [← h.len]; exact (List.getElem?_eq_some_iff.mp e).1)] at e1
      cases e1
      exact ⟨vs, upd_same, hd.mono (same_new hn) (.refl r)⟩
    · rw [List.getElem?_set_ne (Ne.symm hj)] at e1
      have hba : b ≠ a := fun z => hj (h.inj j i b e2 (z ▸ e))
      have q := h.cells j c' b e1 e2
      refine q.mono (.refl r) (same_new hn) ?_ fun _ z => z
      rw [upd_ne hba]
      exact q.notF
/-- the first cells alone -/
theorem Rel.cut (h : Rel K B F r H C) (n : Nat) (hn : n ≤ C.length) (hc : ∀ (i : Nat) (c : Cell) (a : Addr), i < n → C[i]? = some c → r[i]? = some a → CellOk K F (r.take n) H a c) : Rel K B F (r.take n) H (C.take n) where
  froz := h.froz
  base := h.base
  apart := h.apart
  offB := fun i a e => by
    have hi : i < (r.take n).length := (List.getElem?_eq_some_iff.mp e).1
    have hi : i < n := by simp at hi; omega
    rw [List.getElem?_take_of_lt hi] at e
    exact h.offB i a e
  len := by simp [h.len]
  cells := fun i c a e1 e2 => by
    have hi : i < (C.take n).length := (List.getElem?_eq_some_iff.mp e1).1
    have hi : i < n := by simp at hi; omega
    rw [List.getElem?_take_of_lt hi] at e1 e2
    exact hc i c a hi e1 e2
  inj := fun i j a e1 e2 => by
    have hi : i < (r.take n).length := (List.getElem?_eq_some_iff.mp e1).1
    have hj : j < (r.take n).length := (List.getElem?_eq_some_iff.mp e2).1
    have hi : i < n := by simp at hi; omega
    have hj : j < n := by simp at hj; omega
    rw [List.getElem?_take_of_lt hi] at e1
    rw [List.getElem?_take_of_lt hj] at e2
    exact h.inj i j a e1 e2
/-- one thing more that stands by itself -/
theorem Rel.aside (h : Rel K B F r H C) {p : Addr} {o : HO} (hp : H p = none) : Rel K (upd B p o) F r (upd H p o) C where
  froz := (h.junk hp).froz
  base := fun b x q => by
    by_cases hb : b = p
    · subst hb
      rw [upd_same] at q ⊢
      exact q
    · rw [upd_ne hb] at q ⊢
      exact h.base b x q
  apart := fun b x q => by
    by_cases hb : b = p
    · subst hb
      exact h.freeF hp
    · rw [upd_ne hb] at q
      exact h.apart b x q
  offB := fun i a e => by
    rw [upd_ne (h.notin hp e)]
    exact h.offB i a e
  len := h.len
  cells := (h.junk hp).cells
  inj := h.inj
/-- it changes -/
theorem Rel.asideSet {p : Addr} {o u : HO} (h : Rel K (upd B p o) F r H C) : Rel K (upd B p u) F r (upd H p u) C where
  froz := fun b x q => by
    rw [upd_ne fun z => by subst z; rw [h.apart b o upd_same] at q; cases q]
    exact h.froz b x q
  base := fun b x q => by
    by_cases hb : b = p
    · subst hb
      rw [upd_same] at q ⊢
      exact q
    · rw [upd_ne hb] at q ⊢
      exact h.base b x (by rw [upd_ne hb]; exact q)
  apart := fun b x q => by
    by_cases hb : b = p
    · subst hb
      exact h.apart b o upd_same
    · rw [upd_ne hb] at q
      exact h.apart b x (by rw [upd_ne hb]; exact q)
  offB := fun i a e => by
    have q := h.offB i a e
    by_cases hb : a = p
    · subst hb
      rw [upd_same] at q
      cases q
    · rw [upd_ne hb] at q ⊢
      exact q
  len := h.len
  cells := fun i c a e1 e2 => by
    have q := h.cells i c a e1 e2
    have hne : a ≠ p := fun z => by
      subst z
      have q := h.offB i a e2
      rw [upd_same] at q
      cases q
    exact q.mono (.refl r) (.refl F) q.notF fun o ho => by rw [upd_ne hne]; exact ho
  inj := h.inj
/-- it is let go: frozen -/
theorem Rel.asideFreeze {p : Addr} {o : HO} (h : Rel K (upd B p o) F r H C) (hB : B p = none) : Rel K B (upd F p o) r H C ∧ Same F (upd F p o) := by
  have hp : H p = some o := h.base p o upd_same
  have hF : F p = none := h.apart p o upd_same
  refine ⟨⟨fun b x q => ?_, fun b x q => ?_, fun b x q => ?_, fun i a e => ?_, h.len, fun i c a e1 e2 => ?_, h.inj⟩, same_new hF⟩
  · by_cases hb : b = p
    · subst hb
      rw [upd_same] at q
      rw [← q]
      exact hp
    · rw [upd_ne hb] at q
      exact h.froz b x q
  · exact h.base b x (by rw [upd_ne (ne_of_none q hB)]; exact q)
  · rw [upd_ne (ne_of_none q hB)]
    exact h.apart b x (by rw [upd_ne (ne_of_none q hB)]; exact q)
  · have q := h.offB i a e
    by_cases hb : a = p
    · subst hb
      exact hB
    · rw [upd_ne hb] at q
      exact q
  · have q := h.cells i c a e1 e2
    have hne : a ≠ p := fun z => by
      subst z
      have q := h.offB i a e2
      rw [upd_same] at q
      cases q
    refine q.mono (.refl r) (same_new hF) ?_ fun _ z => z
    rw [upd_ne hne]
    exact q.notF
/-- .. as a cell -/
theorem Rel.asideCell {p : Addr} {o : HO} {c : Cell} (h : Rel K (upd B p o) F r H C) (hB : B p = none) (hc : CellOk K F (r ++ [p]) H p c) : Rel K B F (r ++ [p]) H (C ++ [c]) := by
  have hp : H p = some o := h.base p o upd_same
  have hF : F p = none := h.apart p o upd_same
  have nin : ∀ (i : Nat) (a : Addr), r[i]? = some a → a ≠ p := fun i a e z => by
    subst z
    have q := h.offB i a e
    rw [upd_same] at q
    cases q
  have last : ∀ (i : Nat) (a : Addr), (r ++ [p])[i]? = some a → r[i]? = some a ∨ (i = r.length ∧ a = p) := fun i a e => by
    by_cases hi : i < r.length
    · rw [List.getElem?_append_left hi] at e
      exact .inl e
    · rw [List.getElem?_append_right (by omega)] at e
      cases hj : i - r.length with
      | zero => rw [hj] at e; exact .inr ⟨by omega, by simpa using e.symm⟩
      | succ n => rw [hj] at e; simp at e
  refine ⟨h.froz, fun b x q => ?_, fun b x q => ?_, fun i a e => ?_, by simp [h.len], fun i c' a e1 e2 => ?_, fun i j a e1 e2 => ?_⟩
  · exact h.base b x (by rw [upd_ne (ne_of_none q hB)]; exact q)
  · exact h.apart b x (by rw [upd_ne (ne_of_none q hB)]; exact q)
  · rcases last i a e with e | ⟨_, e⟩
    · have q := h.offB i a e
      rw [upd_ne (nin i a e)] at q
      exact q
    · rw [e]
      exact hB
  · rcases last i a e2 with e | ⟨e, e'⟩
    · have hi : i < C.length := by
        rw [← h.len]
        exact (List.getElem?_eq_some_iff.mp e).1
      rw [List.getElem?_append_left hi] at e1
      have q := h.cells i c' a e1 e
      exact q.mono (Ex.app r [p]) (.refl F) q.notF fun _ z => z
    · subst e e'
      rw [h.len, List.getElem?_append_right (Nat.le_refl _)] at e1
      simp at e1
      subst e1
      exact hc
  · rcases last i a e1 with e | ⟨e, e'⟩
    · rcases last j a e2 with k | ⟨k, k'⟩
      · exact h.inj i j a e k
      · exact absurd k' (nin i a e)
    · rcases last j a e2 with k | ⟨k, k'⟩
      · exact absurd e' (nin j a k)
      · rw [e, k]
end
end Nv

namespace Nv
open PySem PySem.Spec PyProof.Rows L2

/-! what is wanted of a result -/
def XOk (K : PySem.W.Frag) (mg : Str → Option Value) (E : XK) (B F : Hp) (r : List Addr) (x : Exn) (C : Store) : Prop :=
  ∀ (F' : Hp) (r' : List Addr) (H' : Hp) (a : Addr), Same F F' → Ex r r' → Rel K B F' r' H' C → mg x.cls = some (.ref a) →
    match x.fld with
    | none => E (.ref a) none H'
    | some (f, d) => ∀ (dx : Addr) (v : V), F' dx = some (.xd [(f, v)]) → Rep K F' r' d v → E (.ref a) (some dx) H'
abbrev PR (S T : Type) := Hp → List Addr → S → T → Prop
def Out {S T : Type} (P : PR S T) (K : PySem.W.Frag) (mg : Str → Option Value) (E : XK) (B F : Hp) (r : List Addr) (o : R (S × Store)) (Q : T → Hp → Prop) : Prop :=
  match o with
  | .ok (a, C) => ∀ (F' : Hp) (r' : List Addr) (H' : Hp) (b : T), Same F F' → Ex r r' → Rel K B F' r' H' C → P F' r' a b → Q b H'
  | .ex x C => XOk K mg E B F r x C
  | .no => False
abbrev PB : PR Bool Bool := fun _ _ a b => a = b
section
variable {K : PySem.W.Frag} {mg : Str → Option Value} {E : XK} {B F F1 : Hp} {r r1 : List Addr} {S T S2 T2 : Type} {P : PR S T} {P2 : PR S2 T2}
theorem XOk.mono {x : Exn} {C : Store} (h : XOk K mg E B F r x C) (hF : Same F F1) (hr : Ex r r1) : XOk K mg E B F1 r1 x C :=
  fun F' r' H' a h1 h2 h3 h4 => h F' r' H' a (hF.trans h1) (hr.trans h2) h3 h4
theorem Out.mono {o : R (S × Store)} {Q : T → Hp → Prop} (h : Out P K mg E B F r o Q) (hF : Same F F1) (hr : Ex r r1) : Out P K mg E B F1 r1 o Q := by
  cases o with
  | ok p => exact fun F' r' H' b h1 h2 h3 h4 => h F' r' H' b (hF.trans h1) (hr.trans h2) h3 h4
  | ex x C => exact XOk.mono h hF hr
  | no => exact h
theorem Out.bind {o : R (S × Store)} {k : S × Store → R (S2 × Store)} {Q : T2 → Hp → Prop} {Q' : T → Hp → Prop} (h : Out P2 K mg E B F r (o.bind k) Q)
    (hk : ∀ (a : S) (C1 : Store) (F1 : Hp) (r1 : List Addr) (H1 : Hp) (b : T), Same F F1 → Ex r r1 → Rel K B F1 r1 H1 C1 → P F1 r1 a b → Out P2 K mg E B F1 r1 (k (a, C1)) Q → Q' b H1) : Out P K mg E B F r o Q' := by
  cases o with
  | ok p =>
    obtain ⟨a, C1⟩ := p
    exact fun F' r' H' b h1 h2 h3 h4 => hk a C1 F' r' H' b h1 h2 h3 h4 (Out.mono h h1 h2)
  | ex x C => exact h
  | no => exact h
theorem Out.imp {o : R (S × Store)} {Q Q' : T → Hp → Prop} (h : Out P K mg E B F r o Q) (hq : ∀ b H, Q b H → Q' b H) : Out P K mg E B F r o Q' := by
  cases o with
  | ok p => exact fun F' r' H' b h1 h2 h3 h4 => hq _ _ (h F' r' H' b h1 h2 h3 h4)
  | ex x C => exact h
  | no => exact h
end
abbrev MG (S : Type) := Sl → Store → R (S × Store)
def LG {S T : Type} (P : PR S T) (K : PySem.W.Frag) (mg : Str → Option Value) (E : XK) (m : MG S) : L2.St → Hp → (T → Hp → Prop) → Prop := fun s H Q =>
  ∃ B F r sl C, Rel K B F r H C ∧ Sls K F r sl s ∧ Out P K mg E B F r (m sl C) Q
/-- expressions, tests, argument lists -/
structure NE (X : Cx) (E : XK) (e : Expr) (m : ME) : Prop where
  pe : PE X e (LG (Rep X.K) X.K X.mg E m)
structure NT (X : Cx) (E : XK) (e : Expr) (m : MG Bool) : Prop where
  pt : PT X e (LG PB X.K X.mg E m)
structure NW (X : Cx) (E : XK) (e : Expr) (m : MG Bool) : Prop where
  pw : PW X e (LG PB X.K X.mg E m)
structure NA (X : Cx) (E : XK) (es : List Expr) (m : MG (List D)) : Prop where
  pa : PA X es (LG (Reps X.K) X.K X.mg E m)
theorem pe_imp {X : Cx} {e : Expr} {t t' : TE} (h : PE X e t) (hi : ∀ s H Q, t' s H Q → t s H Q) : PE X e t' := ⟨fun pins s σ H Q I q => h.run pins s σ H Q I (hi _ _ _ q)⟩
theorem pt_imp {X : Cx} {e : Expr} {t t' : TT} (h : PT X e t) (hi : ∀ s H Q, t' s H Q → t s H Q) : PT X e t' := ⟨fun pins s σ H Q I q => h.run pins s σ H Q I (hi _ _ _ q)⟩
theorem pw_imp {X : Cx} {e : Expr} {t t' : TT} (h : PW X e t) (hi : ∀ s H Q, t' s H Q → t s H Q) : PW X e t' := ⟨fun wh pins s σ H Q I q => h.run wh pins s σ H Q I (hi _ _ _ q)⟩
theorem pa_imp {X : Cx} {e : List Expr} {t t' : TA} (h : PA X e t) (hi : ∀ s H Q, t' s H Q → t s H Q) : PA X e t' := ⟨fun pos pins s σ H Q I q => h.run pos pins s σ H Q I (hi _ _ _ q)⟩

section
variable {X : Cx} {E : XK} {a b c : Expr} {es : List Expr} {ma mb mc : ME} {ta tb : MG Bool} {mas : MG (List D)} {pos p1 : Pos}

/-! names and constants -/
def mVar (i : Nat) : ME := fun sl C => match sl[i]? with
  | some (some d) => .ok (d, C)
  | _ => .no
def mC (d : D) : ME := fun _ C => .ok (d, C)
theorem ne_of_var {i : Nat} (h : PE X a (tVar i)) : NE X E a (mVar i) := ⟨pe_imp h fun s H Q q => by
  obtain ⟨B, F, r, sl, C, hr, hs, o⟩ := q
  unfold mVar at o
  split at o
  · rename_i d e
    obtain ⟨v, e1, e2⟩ := hs.2 i d e
    exact ⟨v, e1, o F r H v (.refl F) (.refl r) hr e2⟩
  · exact False.elim o⟩
theorem ne_var (i : Nat) {x : Str} {pos : Pos} (hN : X.N[i]? = some x := by rfl) (hv : Vis X.env.scope x := by first | exact Or.inl rfl | exact Or.inr (Or.inl rfl) | exact Or.inr (Or.inr rfl)) (hd : (x == ("__debug__" : Str)) = false := by decide)
    (hcd : (x == ("__classdict__" : Str)) = false := by decide) : NE X E (.Name x pos) (mVar i) := ne_of_var (pe_var hN hv hd hcd)
theorem ne_c {d : D} {v : V} (h : PE X a (tC v)) (hd : ∀ F r, Rep X.K F r d v) : NE X E a (mC d) := ⟨pe_imp h fun s H Q q => by
  obtain ⟨B, F, r, sl, C, hr, hs, o⟩ := q
  exact o F r H v (.refl F) (.refl r) hr (hd F r)⟩
theorem ne_int {i : Int} {j : Nat} : NE X E (.Constant (.int i) j pos) (mC (.int i)) := ne_c pe_int fun _ _ => rfl
theorem ne_bl {i : Bool} {j : Nat} : NE X E (.Constant (.bool i) j pos) (mC (.bl i)) := ne_c pe_bl fun _ _ => rfl
theorem ne_non {j : Nat} : NE X E (.Constant .none j pos) (mC .non) := ne_c pe_non fun _ _ => rfl
theorem ne_str {x : Str} {j : Nat} : NE X E (.Constant (.str x) j pos) (mC (.str x)) := ne_c pe_str fun _ _ => rfl

/-! two-place operations -/
def m2 (g : D → D → Store → RE) (ma mb : ME) : ME := fun sl C => (ma sl C).bind fun p => (mb sl p.2).bind fun q => g p.1 q.1 q.2
def OpN (K : PySem.W.Frag) (mg : Str → Option Value) (E : XK) (r2 : R2) (g : D → D → Store → RE) : Prop :=
  ∀ (B F : Hp) (r : List Addr) (H : Hp) (C : Store) (x y : D) (v u : V) (Q : VK), Rel K B F r H C → Rep K F r x v → Rep K F r y u → Out (Rep K) K mg E B F r (g x y C) Q → r2 v u H Q
theorem two {r2 : R2} {g : D → D → Store → RE} (hg : OpN X.K X.mg E r2 g) : ∀ s H Q, LG (Rep X.K) X.K X.mg E (m2 g ma mb) s H Q → tOp r2 (LG (Rep X.K) X.K X.mg E ma) (LG (Rep X.K) X.K X.mg E mb) s H Q := by
  intro s H Q q
  obtain ⟨B, F, r, sl, C, hr, hs, o⟩ := q
  refine ⟨B, F, r, sl, C, hr, hs, Out.bind (P := Rep X.K) o fun x C1 F1 r1 H1 v e1 e2 hr1 hx o1 => ?_⟩
  refine ⟨B, F1, r1, sl, C1, hr1, hs.mono e1 e2, Out.bind (P := Rep X.K) o1 fun y C2 F2 r2' H2 u e3 e4 hr2 hy o2 => ?_⟩
  exact hg B F2 r2' H2 C2 x y v u Q hr2 (hx.mono e3 e4) hy o2
theorem ne_op {op : Operator} {r2 : R2} {g : D → D → Store → RE} (ho : OpR X (binaryOp op) r2) (hg : OpN X.K X.mg E r2 g) (ha : NE X E a ma) (hb : NE X E b mb) : NE X E (.BinOp a op b pos) (m2 g ma mb) :=
  ⟨pe_imp (pe_op ho ha.pe hb.pe) (two hg)⟩
theorem ne_cmp {op : CmpOp} {r2 : R2} {g : D → D → Store → RE} (ho : OpR X (compareOp op) r2) (hg : OpN X.K X.mg E r2 g) (ha : NE X E a ma) (hb : NE X E b mb) (hm : behindInMarks op b = false) : NE X E (.Compare a [op] [b] pos) (m2 g ma mb) :=
  ⟨pe_imp (pe_cmpR ho ha.pe hb.pe hm) (two hg)⟩
/-- a value that is a truth, as a test -/
def mT (m : ME) : MG Bool := fun sl C => (m sl C).bind fun p => match p.1 with
  | .bl b => .ok (b, p.2)
  | _ => .no
theorem test {t : TE} (ht : ∀ s H Q, LG (Rep X.K) X.K X.mg E ma s H Q → t s H Q) : ∀ s H Q, LG PB X.K X.mg E (mT ma) s H Q → t s H fun x H' => ∃ k, x = .bl k ∧ Q k H' := by
  intro s H Q q
  obtain ⟨B, F, r, sl, C, hr, hs, o⟩ := q
  refine ht s H _ ⟨B, F, r, sl, C, hr, hs, Out.bind (P := Rep X.K) o fun x C1 F1 r1 H1 v e1 e2 hr1 hx o1 => ?_⟩
  cases x with
  | bl k => exact ⟨k, hx, o1 F1 r1 H1 k (.refl _) (.refl _) hr1 rfl⟩
  | _ => exact False.elim o1
theorem nt_cmp {op : CmpOp} {r2 : R2} {g : D → D → Store → RE} (ho : OpR X (compareOp op) r2) (hg : OpN X.K X.mg E r2 g) (ha : NE X E a ma) (hb : NE X E b mb) (hm : behindInMarks op b = false) : NT X E (.Compare a [op] [b] pos) (mT (m2 g ma mb)) :=
  ⟨pt_imp (pt_cmpR ho ha.pe hb.pe hm) (test (two hg))⟩
theorem nt_val {e : Expr} {m : ME} (h : NE X E e m) (he : ∀ whole, isTrue e X.env whole = (do let v ← whole; standAt e.pos; holding [v] (truthy v)) := by intro _; rfl) : NT X E e (mT m) :=
  ⟨pt_imp (pt_val h.pe he) (test fun _ _ _ q => q)⟩

/-! one-place operations -/
def m1 (g : D → Store → RE) (ma : ME) : ME := fun sl C => (ma sl C).bind fun p => g p.1 p.2
def UnN (K : PySem.W.Frag) (mg : Str → Option Value) (E : XK) (r1 : V → Hp → VK → Prop) (g : D → Store → RE) : Prop :=
  ∀ (B F : Hp) (r : List Addr) (H : Hp) (C : Store) (x : D) (v : V) (Q : VK), Rel K B F r H C → Rep K F r x v → Out (Rep K) K mg E B F r (g x C) Q → r1 v H Q
theorem one {ru : V → Hp → VK → Prop} {g : D → Store → RE} (hg : UnN X.K X.mg E ru g) : ∀ s H Q, LG (Rep X.K) X.K X.mg E (m1 g ma) s H Q → LG (Rep X.K) X.K X.mg E ma s H fun v H1 => ru v H1 Q := by
  intro s H Q q
  obtain ⟨B, F, r, sl, C, hr, hs, o⟩ := q
  exact ⟨B, F, r, sl, C, hr, hs, Out.bind (P := Rep X.K) o fun x C1 F1 r1 H1 v e1 e2 hr1 hx o1 => hg B F1 r1 H1 C1 x v Q hr1 hx o1⟩
theorem ne_un {op : UnaryOp} {ru : V → Hp → VK → Prop} {g : D → Store → RE} (ho : UnR X (unaryOp op) ru) (hg : UnN X.K X.mg E ru g) (ha : NE X E a ma) : NE X E (.UnaryOp op a pos) (m1 g ma) :=
  ⟨pe_imp (pe_un ho ha.pe) (one hg)⟩
def gNeg : D → Store → RE := fun x C => match x with
  | .int i => .ok (.int (-i), C)
  | _ => .no
theorem un_negN {K : PySem.W.Frag} {mg : Str → Option Value} : UnN K mg E (rU fun i => .int (-i)) gNeg := by
  intro B F r H C x v Q hr hx o
  cases x with
  | int i => exact ⟨i, hx, o F r H _ (.refl _) (.refl _) hr rfl⟩
  | _ => exact False.elim o

/-! and, or, not, if else -/
def tAndM (ta tb : MG Bool) : MG Bool := fun sl C => (ta sl C).bind fun p => if p.1 = true then tb sl p.2 else .ok (false, p.2)
def tOrM (ta tb : MG Bool) : MG Bool := fun sl C => (ta sl C).bind fun p => if p.1 = true then .ok (true, p.2) else tb sl p.2
def tNotM (ta : MG Bool) : MG Bool := fun sl C => (ta sl C).bind fun p => .ok (!p.1, p.2)
theorem nw_or1 (ha : NT X E a ta) : NW X E (.BoolOp .Or [a] pos) ta := ⟨pw_or1 ha.pt⟩
theorem nw_or {e : Expr} {es : List Expr} (ha : NT X E a ta) (hb : NW X E (.BoolOp .Or (e :: es) pos) tb) : NW X E (.BoolOp .Or (a :: e :: es) pos) (tOrM ta tb) :=
  ⟨pw_imp (pw_or ha.pt hb.pw) fun s H Q q => by
    obtain ⟨B, F, r, sl, C, hr, hs, o⟩ := q
    refine ⟨B, F, r, sl, C, hr, hs, Out.bind (P := PB) o fun x C1 F1 r1 H1 v e1 e2 hr1 hx o1 => ?_⟩
    subst hx
    cases x with
    | false =>
      rw [if_neg Bool.false_ne_true] at o1 ⊢
      exact ⟨B, F1, r1, sl, C1, hr1, hs.mono e1 e2, o1⟩
    | true =>
      rw [if_pos rfl] at o1 ⊢
      exact o1 F1 r1 H1 true (.refl _) (.refl _) hr1 rfl⟩
theorem nt_w (h : NW X E a ta) : NT X E a ta := ⟨h.pw.pt⟩
theorem nt_not (ha : NT X E a ta) : NT X E (.UnaryOp .Not a pos) (tNotM ta) := ⟨pt_imp (pt_not ha.pt) fun s H Q q => by
    obtain ⟨B, F, r, sl, C, hr, hs, o⟩ := q
    refine ⟨B, F, r, sl, C, hr, hs, Out.bind (P := PB) o fun x C1 F1 r1 H1 v e1 e2 hr1 hx o1 => ?_⟩
    subst hx
    exact o1 F1 r1 H1 (!x) (.refl _) (.refl _) hr1 rfl⟩
/-- .. as values: all but the last truths -/
def mAnd (ma mb : ME) : ME := fun sl C => (ma sl C).bind fun p => match p.1 with
  | .bl true => mb sl p.2
  | .bl false => .ok (.bl false, p.2)
  | _ => .no
def mOr (ma mb : ME) : ME := fun sl C => (ma sl C).bind fun p => match p.1 with
  | .bl false => mb sl p.2
  | .bl true => .ok (.bl true, p.2)
  | _ => .no
theorem ne_one {op : BoolOp} (h : NE X E a ma) : NE X E (.BoolOp op [a] pos) ma := ⟨pe_one h.pe⟩
theorem ne_and {e : Expr} {es : List Expr} (ha : NE X E a ma) (hb : NE X E (.BoolOp .And (e :: es) pos) mb) : NE X E (.BoolOp .And (a :: e :: es) pos) (mAnd ma mb) :=
  ⟨pe_imp (pe_and ha.pe hb.pe) fun s H Q q => by
    obtain ⟨B, F, r, sl, C, hr, hs, o⟩ := q
    refine ⟨B, F, r, sl, C, hr, hs, Out.bind (P := Rep X.K) o fun x C1 F1 r1 H1 v e1 e2 hr1 hx o1 => ?_⟩
    cases x with
    | bl k =>
      cases k with
      | true => exact ⟨true, hx, by rw [if_pos rfl]; exact ⟨B, F1, r1, sl, C1, hr1, hs.mono e1 e2, o1⟩⟩
      | false => exact ⟨false, hx, by rw [if_neg Bool.false_ne_true]; exact o1 F1 r1 H1 _ (.refl _) (.refl _) hr1 rfl⟩
    | _ => exact False.elim o1⟩
def mNot (ma : ME) : ME := fun sl C => (ma sl C).bind fun p => match p.1 with
  | .bl k => .ok (.bl (!k), p.2)
  | _ => .no
theorem ne_not (ha : NE X E a ma) : NE X E (.UnaryOp .Not a pos) (mNot ma) := ⟨pe_imp (pe_not ha.pe) fun s H Q q => by
    obtain ⟨B, F, r, sl, C, hr, hs, o⟩ := q
    refine ⟨B, F, r, sl, C, hr, hs, Out.bind (P := Rep X.K) o fun x C1 F1 r1 H1 v e1 e2 hr1 hx o1 => ?_⟩
    cases x with
    | bl k => exact ⟨k, hx, o1 F1 r1 H1 _ (.refl _) (.refl _) hr1 rfl⟩
    | _ => exact False.elim o1⟩
def mIf (t : MG Bool) (ma mb : ME) : ME := fun sl C => (t sl C).bind fun p => if p.1 = true then ma sl p.2 else mb sl p.2
theorem ne_if (hc : NT X E c ta) (ha : NE X E a ma) (hb : NE X E b mb) : NE X E (.IfExp c a b pos) (mIf ta ma mb) := ⟨pe_imp (pe_ifExp hc.pt ha.pe hb.pe) fun s H Q q => by
    obtain ⟨B, F, r, sl, C, hr, hs, o⟩ := q
    refine ⟨B, F, r, sl, C, hr, hs, Out.bind (P := PB) o fun x C1 F1 r1 H1 v e1 e2 hr1 hx o1 => ?_⟩
    subst hx
    cases x with
    | true => rw [if_pos rfl] at o1 ⊢; exact ⟨B, F1, r1, sl, C1, hr1, hs.mono e1 e2, o1⟩
    | false => rw [if_neg Bool.false_ne_true] at o1 ⊢; exact ⟨B, F1, r1, sl, C1, hr1, hs.mono e1 e2, o1⟩⟩

/-! argument lists, displays -/
def aNil : MG (List D) := fun _ C => .ok ([], C)
def aCons (ma : ME) (mr : MG (List D)) : MG (List D) := fun sl C => (ma sl C).bind fun p => (mr sl p.2).bind fun q => .ok (p.1 :: q.1, q.2)
theorem na_nil : NA X E [] aNil := ⟨pa_imp pa_nil fun s H Q q => by
    obtain ⟨B, F, r, sl, C, hr, hs, o⟩ := q
    exact o F r H [] (.refl _) (.refl _) hr .nil⟩
theorem na_cons (ha : NE X E a ma) (hr : NA X E es mas) (hs : starEach (a :: es) X.env = (false, eval a X.env) :: starEach es X.env := by rfl) : NA X E (a :: es) (aCons ma mas) :=
  ⟨pa_imp (pa_cons ha.pe hr.pa hs) fun s H Q q => by
    obtain ⟨B, F, r, sl, C, hr, hs, o⟩ := q
    refine ⟨B, F, r, sl, C, hr, hs, Out.bind (P := Rep X.K) o fun x C1 F1 r1 H1 v e1 e2 hr1 hx o1 => ?_⟩
    refine ⟨B, F1, r1, sl, C1, hr1, hs.mono e1 e2, Out.bind (P := Reps X.K) o1 fun y C2 F2 r2 H2 w e3 e4 hr2 hy o2 => ?_⟩
    exact o2 F2 r2 H2 (v :: w) (.refl _) (.refl _) hr2 (.cons (hx.mono e3 e4) hy)⟩
/-- a new list: a cell, or frozen -/
def newL (c : Bool) (ds : List D) (C : Store) : RE := if c = true then .ok (.cell C.length, C ++ [.lst ds]) else .ok (.lst ds, C)
theorem newL_ok {K : PySem.W.Frag} {mg : Str → Option Value} {B F : Hp} {r : List Addr} {H : Hp} {C : Store} {c : Bool} {ds : List D} {vs : List V} {Q : VK} (hr : Rel K B F r H C) (hd : Reps K F r ds vs)
    (o : Out (Rep K) K mg E B F r (newL c ds C) Q) {p : Addr} (hp : H p = none) : Q (.ref p) (upd H p (.lst vs)) := by
  unfold newL at o
  cases c with
  | true =>
    rw [if_pos rfl] at o
    refine o F (r ++ [p]) _ _ (.refl _) (Ex.app r _) (hr.alloc hp ⟨hr.freeF hp, vs, upd_same, hd.mono (.refl _) (Ex.app r _)⟩) ⟨p, rfl, ?_⟩
    rw [← hr.len, List.getElem?_append_right (Nat.le_refl _)]
    simp
  | false =>
    rw [if_neg Bool.false_ne_true] at o
    exact o (upd F p (.lst vs)) r _ _ (same_new (hr.freeF hp)) (.refl r) (hr.freeze hp) ⟨p, vs, rfl, .inl (.inl upd_same), hd.mono (same_new (hr.freeF hp)) (.refl r)⟩
theorem newT_ok {K : PySem.W.Frag} {mg : Str → Option Value} {B F : Hp} {r : List Addr} {H : Hp} {C : Store} {ds : List D} {vs : List V} {Q : VK} (hr : Rel K B F r H C) (hd : Reps K F r ds vs)
    (o : Out (Rep K) K mg E B F r (.ok (.tup ds, C)) Q) {p : Addr} (hp : H p = none) : Q (.ref p) (upd H p (.tup vs)) :=
  o (upd F p (.tup vs)) r _ _ (same_new (hr.freeF hp)) (.refl r) (hr.freeze hp) ⟨p, vs, rfl, .inl (.inl upd_same), hd.mono (same_new (hr.freeF hp)) (.refl r)⟩
def mLst (c : Bool) (mas : MG (List D)) : ME := fun sl C => (mas sl C).bind fun p => if p.1.length ≤ sizeLine then newL c p.1 p.2 else .no
def mTup (mas : MG (List D)) : ME := fun sl C => (mas sl C).bind fun p => if p.1.length ≤ sizeLine then .ok (.tup p.1, p.2) else .no
theorem ne_lst {k : Bool} (h : NA X E es mas) : NE X E (.List es pos) (mLst k mas) := ⟨pe_imp (pe_lst h.pa) fun s H Q q => by
    obtain ⟨B, F, r, sl, C, hr, hs, o⟩ := q
    refine ⟨B, F, r, sl, C, hr, hs, Out.bind (P := Reps X.K) o fun x C1 F1 r1 H1 v e1 e2 hr1 hx o1 => ?_⟩
    split at o1
    · rename_i hl
      exact ⟨by rw [← hx.length]; exact hl, fun p hp => newL_ok hr1 hx o1 hp⟩
    · exact False.elim o1⟩
theorem ne_tup {x1} (h : NA X E es mas) : NE X E (.Tuple es x1 pos) (mTup mas) := ⟨pe_imp (pe_tup h.pa) fun s H Q q => by
    obtain ⟨B, F, r, sl, C, hr, hs, o⟩ := q
    refine ⟨B, F, r, sl, C, hr, hs, Out.bind (P := Reps X.K) o fun x C1 F1 r1 H1 v e1 e2 hr1 hx o1 => ?_⟩
    split at o1
    · rename_i hl
      exact ⟨by rw [← hx.length]; exact hl, fun p hp => newT_ok hr1 hx o1 hp⟩
    · exact False.elim o1⟩

/-! calls of built-ins -/
def mCB (g : List D → Store → RE) (mas : MG (List D)) : ME := fun sl C => (mas sl C).bind fun p => g p.1 p.2
def CallN (K : PySem.W.Frag) (mg : Str → Option Value) (E : XK) (rc : List V → Hp → VK → Prop) (g : List D → Store → RE) : Prop :=
  ∀ (B F : Hp) (r : List Addr) (H : Hp) (C : Store) (ds : List D) (vs : List V) (Q : VK), Rel K B F r H C → Reps K F r ds vs → Out (Rep K) K mg E B F r (g ds C) Q → rc vs H Q
theorem args {rc : List V → Hp → VK → Prop} {g : List D → Store → RE} (hg : CallN X.K X.mg E rc g) : ∀ s H Q, LG (Rep X.K) X.K X.mg E (mCB g mas) s H Q → LG (Reps X.K) X.K X.mg E mas s H fun vs H1 => rc vs H1 Q := by
  intro s H Q q
  obtain ⟨B, F, r, sl, C, hr, hs, o⟩ := q
  exact ⟨B, F, r, sl, C, hr, hs, Out.bind (P := Reps X.K) o fun x C1 F1 r1 H1 v e1 e2 hr1 hx o1 => hg B F1 r1 H1 C1 x v Q hr1 hx o1⟩
theorem ne_callB {e : Expr} {x : Str} {id : String} {rc : List V → Hp → VK → Prop} {g : List D → Store → RE} (hc : CallR X (.builtin id) rc) (hg : CallN X.K X.mg E rc g) (hm : X.mg x = none) (ha : NA X E (e :: es) mas) (hl : Gl X x := by rfl)
    (hv : bootBuiltins x = some (.builtin id) := by decide +kernel) (hn : x ≠ "__name__" := by decide) (hdb : (x == ("__debug__" : Str)) = false := by decide) (he : starEach (e :: es) X.env = (false, eval e X.env) :: starEach es X.env := by rfl) (hpl : (backTo pos (starEach es X.env)).any (·.1) = false := by rfl) : NE X E (.Call (.Name x p1) (e :: es) [] pos) (mCB g mas) :=
  ⟨pe_imp (pe_callB hc hl hm hv ha.pa hn hdb he hpl) (args hg)⟩
theorem ne_callTy {e : Expr} {x : Str} {T : String} {rc : List V → Hp → VK → Prop} {g : List D → Store → RE} (hc : CallR X (.type T) rc) (hg : CallN X.K X.mg E rc g) (hm : X.mg x = none) (ha : NA X E (e :: es) mas) (hl : Gl X x := by rfl)
    (hv : bootBuiltins x = some (.type T) := by decide +kernel) (hn : x ≠ "__name__" := by decide) (hdb : (x == ("__debug__" : Str)) = false := by decide) (he : starEach (e :: es) X.env = (false, eval e X.env) :: starEach es X.env := by rfl) (hpl : (backTo pos (starEach es X.env)).any (·.1) = false := by rfl) : NE X E (.Call (.Name x p1) (e :: es) [] pos) (mCB g mas) :=
  ⟨pe_imp (pe_callTy hc hl hm hv ha.pa hn hdb he hpl) (args hg)⟩

end
end Nv

namespace Nv
open PySem PySem.Spec PyProof.Rows L2

/-! reading lists and tuples -/
def lstAt (C : Store) (i : Nat) : Option (List D) := match C[i]? with
  | some (.lst ds) => some ds
  | some (.fz ds) => some ds
  | _ => none
def mutAt (C : Store) (i : Nat) : Option (List D) := match C[i]? with
  | some (.lst ds) => some ds
  | _ => none
theorem lstAt_some {C : Store} {i : Nat} {ds : List D} (h : lstAt C i = some ds) : C[i]? = some (.lst ds) ∨ C[i]? = some (.fz ds) := by
  unfold lstAt at h
  split at h
  · rename_i ds' hc
    rw [hc, Option.some.inj h]
    exact .inl rfl
  · rename_i ds' hc
    rw [hc, Option.some.inj h]
    exact .inr rfl
  · cases h
theorem mutAt_some {C : Store} {i : Nat} {ds : List D} (h : mutAt C i = some ds) : C[i]? = some (.lst ds) := by
  unfold mutAt at h
  split at h
  · rename_i ds' hc
    rw [hc, Option.some.inj h]
  · cases h
def lstOf (C : Store) : D → Option (List D)
  | .lst ds => some ds
  | .cell i => lstAt C i
  | _ => none
def tupOf : D → Option (List D)
  | .tup ds => some ds
  | _ => none
def cellOf (C : Store) : D → Option (Nat × List D)
  | .cell i => (mutAt C i).map fun ds => (i, ds)
  | _ => none
section
variable {K : PySem.W.Frag} {mg : Str → Option Value} {E : XK} {B F H : Hp} {r : List Addr} {C : Store} {Q : VK}
theorem Rel.seq {a : Addr} {xs : List V} (hr : Rel K B F r H C) (h : SqL K F a xs) : SqL K H a xs := Same.seq hr.froz h
theorem mutAt_ok {i : Nat} {v : V} {ds : List D} (hr : Rel K B F r H C) (hx : Rep K F r (.cell i) v) (e : mutAt C i = some ds) :
    ∃ a vs, v = .ref a ∧ r[i]? = some a ∧ F a = none ∧ H a = some (.lst vs) ∧ Reps K F r ds vs := by
  obtain ⟨a, h1, h2⟩ := hx
  obtain ⟨h0, vs, h3, h4⟩ := hr.cells i _ a (mutAt_some e) h2
  exact ⟨a, vs, h1, h2, h0, h3, h4⟩
theorem lstAt_ok {i : Nat} {v : V} {ds : List D} (hr : Rel K B F r H C) (hx : Rep K F r (.cell i) v) (e : lstAt C i = some ds) : ∃ a vs, v = .ref a ∧ r[i]? = some a ∧ SqL K H a vs ∧ Reps K F r ds vs := by
  obtain ⟨a, h1, h2⟩ := hx
  rcases lstAt_some e with e | e
  · obtain ⟨h0, vs, h3, h4⟩ := hr.cells i _ a e h2
    exact ⟨a, vs, h1, h2, .inl (.inl h3), h4⟩
  · obtain ⟨vs, h3, h4⟩ := hr.cells i _ a e h2
    exact ⟨a, vs, h1, h2, .inl (.inl (hr.froz _ _ h3)), h4⟩
theorem lstOf_ok {x : D} {v : V} {ds : List D} (hr : Rel K B F r H C) (hx : Rep K F r x v) (e : lstOf C x = some ds) : ∃ a vs, v = .ref a ∧ SqL K H a vs ∧ Reps K F r ds vs := by
  cases x with
  | lst ds' =>
    have e : ds' = ds := Option.some.inj e
    subst e
    obtain ⟨a, vs, h1, h2, h3⟩ := hx
    exact ⟨a, vs, h1, Same.seq hr.froz h2, h3⟩
  | cell i =>
    obtain ⟨a, vs, h1, _, h3, h4⟩ := lstAt_ok hr hx e
    exact ⟨a, vs, h1, h3, h4⟩
  | _ => cases e
theorem tupOf_ok {x : D} {v : V} {ds : List D} (hr : Rel K B F r H C) (hx : Rep K F r x v) (e : tupOf x = some ds) : ∃ a vs, v = .ref a ∧ SqT K H a vs ∧ Reps K F r ds vs := by
  cases x with
  | tup ds' =>
    have e : ds' = ds := Option.some.inj e
    subst e
    obtain ⟨a, vs, h1, h2, h3⟩ := hx
    exact ⟨a, vs, h1, Same.tup hr.froz h2, h3⟩
  | _ => cases e
theorem cellOf_ok {x : D} {v : V} {i : Nat} {ds : List D} (hr : Rel K B F r H C) (hx : Rep K F r x v) (e : cellOf C x = some (i, ds)) :
    ∃ a vs, v = .ref a ∧ r[i]? = some a ∧ F a = none ∧ H a = some (.lst vs) ∧ Reps K F r ds vs := by
  cases x with
  | cell j =>
    have e : (mutAt C j).map (fun ds => (j, ds)) = some (i, ds) := e
    cases q : mutAt C j with
    | none => rw [q] at e; cases e
    | some es =>
      rw [q] at e
      cases e
      exact mutAt_ok hr hx q
  | _ => cases e

/-! arithmetic -/
def bigLine : Int := 2 ^ 10000
def powLine : Int := 2 ^ 1000
def smallI (i : Int) : Bool := decide (-(2 ^ 64) < i) && decide (i < 2 ^ 64)
def bigI (i : Int) : Bool := decide (-bigLine < i) && decide (i < bigLine)
def gAdd (c : Bool) (x y : D) (C : Store) : RE := match x, y with
  | .int i, .int j => .ok (.int (i + j), C)
  | .str a, .str b => if a.length + b.length ≤ sizeLine then .ok (.str (a ++ b), C) else .no
  | x, y => match lstOf C x, lstOf C y with
    | some a, some b => if a.length + b.length ≤ sizeLine then newL c (a ++ b) C else .no
    | _, _ => .no
def gSub (x y : D) (C : Store) : RE := match x, y with
  | .int i, .int j => .ok (.int (i - j), C)
  | _, _ => .no
def gMul (x y : D) (C : Store) : RE := match x, y with
  | .int i, .int j => if (smallI i || smallI j || (bigI i && bigI j)) = true then .ok (.int (i * j), C) else .no
  | _, _ => .no
def gDiv (x y : D) (C : Store) : RE := match x, y with
  | .int i, .int j => if 0 < j ∧ j ≤ 10 ^ 60 then .ok (.int (i / j), C) else .no
  | _, _ => .no
def gMod (x y : D) (C : Store) : RE := match x, y with
  | .int i, .int j => if 0 < j then .ok (.int (i % j), C) else .no
  | _, _ => .no
def gPow (x y : D) (C : Store) : RE := match x, y with
  | .int i, .int j => if 0 ≤ j ∧ j ≤ 1000 ∧ -powLine < i ∧ i < powLine then .ok (.int (i ^ j.toNat), C) else .no
  | _, _ => .no
/-- the rule for two values' answers -/
theorem out_ok {d : D} {v : V} (hr : Rel K B F r H C) (h : Rep K F r d v) (o : Out (Rep K) K mg E B F r (.ok (d, C)) Q) : Q v H := o F r H v (.refl _) (.refl _) hr h
variable {X : Cx}
theorem Inv.isL {pins : List (Addr × Obj)} {σ : L2.St} {s : Shared} {a : Addr} {xs : List V} (I : Inv X pins σ H s) (h : SqL X.K H a xs) : ∃ its : List Value, Vals xs its ∧ s.heap.IsList a its.toArray ∧ xs.length ≤ sizeLine := by
  obtain ⟨its, h1, h2, h3⟩ := I.list h
  exact ⟨its, h1, h2.isList, h3⟩
def rCatS (K : PySem.W.Frag) : R2 := fun x y H Q => ∃ l b xs zs, x = .ref l ∧ y = .ref b ∧ SqL K H l xs ∧ SqL K H b zs ∧ xs.length + zs.length ≤ sizeLine ∧ ∀ p, H p = none → Q (.ref p) (upd H p (.lst (xs ++ zs)))
theorem op_catS : OpR X (binaryOp .Add) (rCatS X.K) := by
  intro pins s σ H x y v u Q I rx ry h
  obtain ⟨l, b, xs, zs, rfl, rfl, hH, hB, hz, q⟩ := h
  cases rx
  cases ry
  obtain ⟨its, r1, hl, z⟩ := Inv.isL I hH
  obtain ⟨its2, r2, hl2, z2⟩ := Inv.isL I hB
  have l1 := r1.length
  have l2 := r2.length
  obtain ⟨⟨cls, dd, data, sl⟩, ho, hc, n, hd⟩ := hl
  obtain ⟨⟨cls2, dd2, data2, sl2⟩, ho2, hc2, n2, hd2⟩ := hl2
  simp only at hc hd hc2 hd2
  subst hc hd hc2 hd2
  have ea : its.toArray ++ its2.toArray = (its ++ its2).toArray := by simp
  refine concat_meets ⟨_, ho, rfl⟩ ⟨_, ho2, rfl⟩ noFill_list_add seq_list_add PySem.F.slot_list_add PySem.F.entry_list_add (PySem.F.args_list_add_2 _ _) (list_addW l b its.toArray its2.toArray n n2 dd dd2 sl sl2 (by simp; omega)) ⟨ho, ho2, ?_⟩
  rw [ea]
  exact ⟨.ref _, _, I.lnew (t' := s.toks) (r1.append r2) (by rw [List.length_append]; omega), rfl, q _ I.fresh⟩

def rAdd3 (K : PySem.W.Frag) : R2 := fun x y H Q => (∃ i j, x = .int i ∧ y = .int j ∧ Q (.int (i + j)) H) ∨ ((∃ i j, x = .str i ∧ y = .str j ∧ i.length + j.length ≤ sizeLine ∧ Q (.str (i ++ j)) H) ∨ rCatS K x y H Q)
theorem op_addA : OpR X (binaryOp .Add) (rAdd3 X.K) := op_add.or (op_add_str.or op_catS)
theorem addN {c : Bool} : OpN K mg E (rAdd3 K) (gAdd c) := by
  intro B F r H C x y v u Q hr hx hy o
  have cat : ∀ (o : Out (Rep K) K mg E B F r (match lstOf C x, lstOf C y with
    | some a, some b => if a.length + b.length ≤ sizeLine then newL c (a ++ b) C else .no
    | _, _ => .no) Q), rAdd3 K v u H Q := fun o => by
    split at o
    · rename_i a b e1 e2
      obtain ⟨p, vs, rfl, h1, h2⟩ := lstOf_ok hr hx e1
      obtain ⟨q, ws, rfl, h3, h4⟩ := lstOf_ok hr hy e2
      split at o
      · rename_i hl
        exact .inr (.inr ⟨p, q, vs, ws, rfl, rfl, h1, h3, by rw [← h2.length, ← h4.length]; exact hl, fun t ht => newL_ok hr (h2.append h4) o ht⟩)
      · exact False.elim o
    · exact False.elim o
  cases x with
  | int i =>
    cases y with
    | int j => exact .inl ⟨i, j, hx, hy, out_ok (d := .int (i + j)) hr rfl o⟩
    | _ => exact cat o
  | str a =>
    cases y with
    | str b =>
      have o : Out (Rep K) K mg E B F r (if a.length + b.length ≤ sizeLine then .ok (.str (a ++ b), C) else .no) Q := o
      split at o
      · rename_i hl
        exact .inr (.inl ⟨a, b, hx, hy, hl, out_ok (d := .str (a ++ b)) hr rfl o⟩)
      · exact False.elim o
    | _ => exact cat o
  | _ => exact cat o
theorem subN : OpN K mg E (rI0 fun i j => .int (i - j)) gSub := by
  intro B F r H C x y v u Q hr hx hy o
  cases x with
  | int i =>
    cases y with
    | int j => exact ⟨i, j, hx, hy, out_ok (d := .int (i - j)) hr rfl o⟩
    | _ => exact False.elim o
  | _ => exact False.elim o
theorem log2_lt {a : Nat} {n : Nat} (h : a < 2 ^ n) (h0 : 0 < n) : a.log2 < n := by
  by_cases h1 : a = 0
  · subst h1
    simpa using h0
  · exact (Nat.log2_lt h1).mpr h
theorem natAbs_lt {i b : Int} (h : -b < i) (h2 : i < b) : i.natAbs < b.natAbs := by omega
def rMul3 : R2 := fun x y H Q => (rI CMul (fun i j => .int (i * j)) x y H Q) ∨ (rI CMulW (fun i j => .int (i * j)) x y H Q)
theorem op_mulA : OpR X (binaryOp .Mult) rMul3 := op_mul.or op_mulW
theorem bigLine_abs : bigLine.natAbs = 2 ^ 10000 := by unfold bigLine; rw [Int.natAbs_pow]; rfl
theorem powLine_abs : powLine.natAbs = 2 ^ 1000 := by unfold powLine; rw [Int.natAbs_pow]; rfl
theorem mulN : OpN K mg E rMul3 gMul := by
  intro B F r H C x y v u Q hr hx hy o
  cases x with
  | int i =>
    cases y with
    | int j =>
      have o : Out (Rep K) K mg E B F r (if (smallI i || smallI j || (bigI i && bigI j)) = true then .ok (.int (i * j), C) else .no) Q := o
      split at o
      · rename_i hc
        have q := out_ok (d := .int (i * j)) hr rfl o
        simp only [Bool.or_eq_true, Bool.and_eq_true, smallI, bigI, decide_eq_true_eq] at hc
        rcases hc with (h | h) | ⟨h, h'⟩
        · exact .inl ⟨i, j, hx, hy, .inl h, q⟩
        · exact .inl ⟨i, j, hx, hy, .inr h, q⟩
        · refine .inr ⟨i, j, hx, hy, ?_, q⟩
          have h1 := natAbs_lt h.1 h.2
          have h2 := natAbs_lt h'.1 h'.2
          rw [bigLine_abs] at h1 h2
          exact wide_mul h1 h2 (by decide) (by decide) (by decide)
      · exact False.elim o
    | _ => exact False.elim o
  | _ => exact False.elim o
theorem divN : OpN K mg E (rI CDivW fun i j => .int (i / j)) gDiv := by
  intro B F r H C x y v u Q hr hx hy o
  cases x with
  | int i =>
    cases y with
    | int j =>
      have o : Out (Rep K) K mg E B F r (if 0 < j ∧ j ≤ 10 ^ 60 then .ok (.int (i / j), C) else .no) Q := o
      split at o
      · rename_i hc
        refine ⟨i, j, hx, hy, wide_div (b := 200) hc.1 ?_ (by decide) (by decide), out_ok (d := .int (i / j)) hr rfl o⟩
        have := hc.1
        have := hc.2
        omega
      · exact False.elim o
    | _ => exact False.elim o
  | _ => exact False.elim o
theorem modN : OpN K mg E (rI (fun _ j => 0 < j) fun i j => .int (i % j)) gMod := by
  intro B F r H C x y v u Q hr hx hy o
  cases x with
  | int i =>
    cases y with
    | int j =>
      have o : Out (Rep K) K mg E B F r (if 0 < j then .ok (.int (i % j), C) else .no) Q := o
      split at o
      · rename_i hc
        exact ⟨i, j, hx, hy, hc, out_ok (d := .int (i % j)) hr rfl o⟩
      · exact False.elim o
    | _ => exact False.elim o
  | _ => exact False.elim o
def CPowW (i j : Int) : Prop := 0 ≤ j ∧ j ≤ 1000 ∧ -powLine < i ∧ i < powLine
theorem op_powW : OpR X (binaryOp .Pow) (rI CPowW fun i j => .int (i ^ j.toNat)) := opI fun i j _ _ _ _ _ hc q => by
  obtain ⟨h0, h1, h2, h3⟩ := hc
  refine pow_int h0 ?_ q
  have h := natAbs_lt h2 h3
  rw [powLine_abs] at h
  have hb := PyProof.Rows.intBits_le h
  have h4 : ((Builtin.Int.intBits i : Nat) : Int) ≤ 1000 := by omega
  have h5 := Int.mul_le_mul h4 h1 h0 (by decide)
  omega
theorem powN : OpN K mg E (rI CPowW fun i j => .int (i ^ j.toNat)) gPow := by
  intro B F r H C x y v u Q hr hx hy o
  cases x with
  | int i =>
    cases y with
    | int j =>
      have o : Out (Rep K) K mg E B F r (if 0 ≤ j ∧ j ≤ 1000 ∧ -powLine < i ∧ i < powLine then .ok (.int (i ^ j.toNat), C) else .no) Q := o
      split at o
      · rename_i hc
        exact ⟨i, j, hx, hy, hc, out_ok (d := .int (i ^ j.toNat)) hr rfl o⟩
      · exact False.elim o
    | _ => exact False.elim o
  | _ => exact False.elim o

/-! comparisons of whole numbers -/
def gLt (x y : D) (C : Store) : RE := match x, y with
  | .int i, .int j => .ok (.bl (decide (i < j)), C)
  | _, _ => .no
def gLe (x y : D) (C : Store) : RE := match x, y with
  | .int i, .int j => .ok (.bl (decide (i ≤ j)), C)
  | _, _ => .no
def gGt (x y : D) (C : Store) : RE := match x, y with
  | .int i, .int j => .ok (.bl (decide (j < i)), C)
  | _, _ => .no
def gGe (x y : D) (C : Store) : RE := match x, y with
  | .int i, .int j => .ok (.bl (decide (j ≤ i)), C)
  | _, _ => .no
theorem ltN : OpN K mg E (rI0 fun i j => .bl (decide (i < j))) gLt := by
  intro B F r H C x y v u Q hr hx hy o
  cases x with
  | int i =>
    cases y with
    | int j => exact ⟨i, j, hx, hy, out_ok (d := .bl (decide (i < j))) hr rfl o⟩
    | _ => exact False.elim o
  | _ => exact False.elim o
theorem leN : OpN K mg E (rI0 fun i j => .bl (decide (i ≤ j))) gLe := by
  intro B F r H C x y v u Q hr hx hy o
  cases x with
  | int i =>
    cases y with
    | int j => exact ⟨i, j, hx, hy, out_ok (d := .bl (decide (i ≤ j))) hr rfl o⟩
    | _ => exact False.elim o
  | _ => exact False.elim o
theorem gtN : OpN K mg E (rI0 fun i j => .bl (decide (j < i))) gGt := by
  intro B F r H C x y v u Q hr hx hy o
  cases x with
  | int i =>
    cases y with
    | int j => exact ⟨i, j, hx, hy, out_ok (d := .bl (decide (j < i))) hr rfl o⟩
    | _ => exact False.elim o
  | _ => exact False.elim o
/-! as data: == and != -/
mutual
def toP0 : D → Option PyData
  | .non => some .none
  | .bl b => some (.bool b)
  | .int i => some (.int i)
  | .str x => some (.str x)
  | .lst ds => (toPs0 ds).map .list
  | .tup ds => (toPs0 ds).map .tuple
  | .cell _ => none
  | .edct => none
  | .exc _ _ _ => none
  | .fn _ => none
def toPs0 : List D → Option (List PyData)
  | [] => some []
  | d :: ds => match toP0 d, toPs0 ds with
    | some p, some ps => some (p :: ps)
    | _, _ => none
end
mutual
def toP (C : Store) : D → Option PyData
  | .non => some .none
  | .bl b => some (.bool b)
  | .int i => some (.int i)
  | .str x => some (.str x)
  | .lst ds => (toPs C ds).map .list
  | .tup ds => (toPs C ds).map .tuple
  | .cell i => (lstAt C i).bind fun ds => (toPs0 ds).map .list
  | .edct => none
  | .exc _ _ _ => none
  | .fn _ => none
def toPs (C : Store) : List D → Option (List PyData)
  | [] => some []
  | d :: ds => match toP C d, toPs C ds with
    | some p, some ps => some (p :: ps)
    | _, _ => none
end
theorem map_some {A B : Type} {f : A → B} {o : Option A} {b : B} (h : o.map f = some b) : ∃ a, o = some a ∧ f a = b := by
  cases o with
  | none => cases h
  | some a => exact ⟨a, rfl, Option.some.inj h⟩
mutual
theorem toP0_ok (hr : Rel K B F r H C) : ∀ {d : D} {v : V} {p : PyData}, Rep K F r d v → toP0 d = some p → Dp K H v p
  | .non, _, _, h, e => by rw [show _ = V.non from h, ← Option.some.inj e]; exact .non
  | .bl b, _, _, h, e => by rw [show _ = V.bl b from h, ← Option.some.inj e]; exact .bl b
  | .int b, _, _, h, e => by rw [show _ = V.int b from h, ← Option.some.inj e]; exact .int b
  | .str b, _, _, h, e => by rw [show _ = V.str b from h, ← Option.some.inj e]; exact .str b
  | .lst ds, _, _, h, e => by
    obtain ⟨a, vs, rfl, h1, h2⟩ := h
    obtain ⟨ps, e1, e2⟩ := map_some (show (toPs0 ds).map PyData.list = some _ from e)
    subst e2
    exact .lst (Same.seq hr.froz h1) (toPs0_ok hr h2 e1)
  | .tup ds, _, _, h, e => by
    obtain ⟨a, vs, rfl, h1, h2⟩ := h
    obtain ⟨ps, e1, e2⟩ := map_some (show (toPs0 ds).map PyData.tuple = some _ from e)
    subst e2
    exact .tup (Same.tup hr.froz h1) (toPs0_ok hr h2 e1)
  | .cell i, _, _, h, e => nomatch (show (none : Option PyData) = some _ from e)
  | .edct, _, _, h, e => nomatch (show (none : Option PyData) = some _ from e)
  | .exc _ _ _, _, _, h, e => nomatch (show (none : Option PyData) = some _ from e)
  | .fn _, _, _, h, e => nomatch (show (none : Option PyData) = some _ from e)
theorem toPs0_ok (hr : Rel K B F r H C) : ∀ {ds : List D} {vs : List V} {ps : List PyData}, Reps K F r ds vs → toPs0 ds = some ps → DpAll K H vs ps
  | [], _, _, h, e => by rw [show _ = [] from h, ← Option.some.inj e]; exact .nil
  | d :: ds, _, _, h, e => by
    obtain ⟨v, w, rfl, h1, h2⟩ := h
    unfold toPs0 at e
    split at e
    · rename_i p ps e1 e2
      cases e
      exact .cons (toP0_ok hr h1 e1) (toPs0_ok hr h2 e2)
    · cases e
end
mutual
theorem toP_ok (hr : Rel K B F r H C) : ∀ {d : D} {v : V} {p : PyData}, Rep K F r d v → toP C d = some p → Dp K H v p
  | .non, _, _, h, e => by rw [show _ = V.non from h, ← Option.some.inj e]; exact .non
  | .bl b, _, _, h, e => by rw [show _ = V.bl b from h, ← Option.some.inj e]; exact .bl b
  | .int b, _, _, h, e => by rw [show _ = V.int b from h, ← Option.some.inj e]; exact .int b
  | .str b, _, _, h, e => by rw [show _ = V.str b from h, ← Option.some.inj e]; exact .str b
  | .lst ds, _, _, h, e => by
    obtain ⟨a, vs, rfl, h1, h2⟩ := h
    obtain ⟨ps, e1, e2⟩ := map_some (show (toPs C ds).map PyData.list = some _ from e)
    subst e2
    exact .lst (Same.seq hr.froz h1) (toPs_ok hr h2 e1)
  | .tup ds, _, _, h, e => by
    obtain ⟨a, vs, rfl, h1, h2⟩ := h
    obtain ⟨ps, e1, e2⟩ := map_some (show (toPs C ds).map PyData.tuple = some _ from e)
    subst e2
    exact .tup (Same.tup hr.froz h1) (toPs_ok hr h2 e1)
  | .cell i, _, _, h, e => by
    have e : (lstAt C i).bind (fun ds => (toPs0 ds).map PyData.list) = some _ := e
    cases q : lstAt C i with
    | none => rw [q] at e; cases e
    | some ds =>
      rw [q] at e
      obtain ⟨ps, e1, e2⟩ := map_some (show (toPs0 ds).map PyData.list = some _ from e)
      subst e2
      obtain ⟨a, vs, rfl, _, h3, h4⟩ := lstAt_ok hr h q
      exact .lst h3 (toPs0_ok hr h4 e1)
  | .edct, _, _, h, e => nomatch (show (none : Option PyData) = some _ from e)
  | .exc _ _ _, _, _, h, e => nomatch (show (none : Option PyData) = some _ from e)
  | .fn _, _, _, h, e => nomatch (show (none : Option PyData) = some _ from e)
theorem toPs_ok (hr : Rel K B F r H C) : ∀ {ds : List D} {vs : List V} {ps : List PyData}, Reps K F r ds vs → toPs C ds = some ps → DpAll K H vs ps
  | [], _, _, h, e => by rw [show _ = [] from h, ← Option.some.inj e]; exact .nil
  | d :: ds, _, _, h, e => by
    obtain ⟨v, w, rfl, h1, h2⟩ := h
    unfold toPs at e
    split at e
    · rename_i p ps e1 e2
      cases e
      exact .cons (toP_ok hr h1 e1) (toPs_ok hr h2 e2)
    · cases e
end
def gEq0 (x y : D) (C : Store) : RE := match toP C x, toP C y with
  | some p, some q => if (SeqAt.shaped p && SeqAt.shaped q) = true then .ok (.bl (PyData.eqv p q), C) else .no
  | _, _ => .no
def gNe0 (x y : D) (C : Store) : RE := match toP C x, toP C y with
  | some p, some q => if (SeqAt.shaped p && SeqAt.shaped q) = true then .ok (.bl (!PyData.eqv p q), C) else .no
  | _, _ => .no
theorem eqN0 : OpN K mg E (rEqD K) gEq0 := by
  intro B F r H C x y v u Q hr hx hy o
  unfold gEq0 at o
  split at o
  · rename_i p q e1 e2
    split at o
    · rename_i hs
      rw [Bool.and_eq_true] at hs
      exact ⟨p, q, toP_ok hr hx e1, toP_ok hr hy e2, hs.1, hs.2, out_ok (d := .bl (PyData.eqv p q)) hr rfl o⟩
    · exact False.elim o
  · exact False.elim o
theorem neN0 : OpN K mg E (rNeD K) gNe0 := by
  intro B F r H C x y v u Q hr hx hy o
  unfold gNe0 at o
  split at o
  · rename_i p q e1 e2
    split at o
    · rename_i hs
      rw [Bool.and_eq_true] at hs
      exact ⟨p, q, toP_ok hr hx e1, toP_ok hr hy e2, hs.1, hs.2, out_ok (d := .bl (!PyData.eqv p q)) hr rfl o⟩
    · exact False.elim o
  · exact False.elim o
def gEq (x y : D) (C : Store) : RE := match x, y with
  | .str a, .str b => .ok (.bl (decide (a = b)), C)
  | x, y => gEq0 x y C
def gNe (x y : D) (C : Store) : RE := match x, y with
  | .str a, .str b => .ok (.bl (!decide (a = b)), C)
  | x, y => gNe0 x y C
theorem dec_strV {a b : Str} : decide (V.str a = V.str b) = decide (a = b) := by
  rw [Bool.eq_iff_iff]
  simp
theorem eqN : OpN K mg E (fun x y H Q => rEq x y H Q ∨ rEqD K x y H Q) gEq := by
  intro B F r H C x y v u Q hr hx hy o
  unfold gEq at o
  split at o
  · rename_i a b
    rw [show v = V.str a from hx, show u = V.str b from hy]
    refine .inl ⟨rfl, ?_⟩
    rw [dec_strV]
    exact out_ok (d := .bl (decide (a = b))) hr rfl o
  · exact .inr (eqN0 B F r H C _ _ v u Q hr hx hy o)
theorem neN : OpN K mg E (fun x y H Q => rNe x y H Q ∨ rNeD K x y H Q) gNe := by
  intro B F r H C x y v u Q hr hx hy o
  unfold gNe at o
  split at o
  · rename_i a b
    rw [show v = V.str a from hx, show u = V.str b from hy]
    refine .inl ⟨rfl, ?_⟩
    rw [dec_strV]
    exact out_ok (d := .bl (!decide (a = b))) hr rfl o
  · exact .inr (neN0 B F r H C _ _ v u Q hr hx hy o)
theorem op_eqE {X : Cx} (hu : X.A.units + 64 < cLine) : OpR X (compareOp .Eq) (fun x y H Q => rEq x y H Q ∨ rEqD X.K x y H Q) := op_eq.or (op_eqD hu)
theorem op_neE {X : Cx} (hu : X.A.units + 64 < cLine) : OpR X (compareOp .NotEq) (fun x y H Q => rNe x y H Q ∨ rNeD X.K x y H Q) := op_ne.or (op_neD hu)
end
end Nv

namespace Nv
open PySem PySem.Spec PyProof.Rows L2

/-! a def's promise, where no text of an object is being made (guards) -/
structure FnG (P : Program) (w : World) (K : PySem.W.Frag) (mg : Str → Option Value) (base : Heap) (k : Nat) (f : Addr) (fd : FuncData) (ps : List Str) (sp : Sp) : Prop where
  len : ∀ vs H Q E, sp vs H Q E → vs.length = ps.length
  run : ∀ (A : Around) (outer : List Env) (s : Shared) (H : Hp) (args : Args) (us : List Value) (vs : List V) (Q : VK) (E : XK), Room k A → A.guards = some [] →
    Env0 P w K mg base A outer s H → BindsTo s fd args (ps.zip us) → Vals vs us → sp vs H Q E → codeAny (model P w) A (.call (.ref f) args) (CR (L2.CX P w) outer P w H s Q E) s
theorem FnG.mono {P : Program} {w : World} {K : PySem.W.Frag} {mg : Str → Option Value} {base : Heap} {j k : Nat} {f : Addr} {fd : FuncData} {ps : List Str} {sp : Sp} (F : FnG P w K mg base j f fd ps sp) (h : j ≤ k) : FnG P w K mg base k f fd ps sp :=
  ⟨F.len, fun A outer s H args us vs Q E hr => F.run A outer s H args us vs Q E (hr.mono h)⟩
theorem FnG.imp {P : Program} {w : World} {K : PySem.W.Frag} {mg : Str → Option Value} {base : Heap} {k : Nat} {f : Addr} {fd : FuncData} {ps : List Str} {sp sp' : Sp} (F : FnG P w K mg base k f fd ps sp)
    (h : ∀ vs H Q E, sp' vs H Q E → sp vs H Q E) : FnG P w K mg base k f fd ps sp' :=
  ⟨fun vs H Q E q => F.len vs H Q E (h _ _ _ _ q), fun A outer s H args us vs Q E hr hg he hb hv hs => F.run A outer s H args us vs Q E hr hg he hb hv (h _ _ _ _ hs)⟩

section
variable {P : Program} {w : World} {K : PySem.W.Frag} {mg : Str → Option Value} {base : Heap}
/-- the rule for a def -/
theorem fnG_of {x qual : Str} {st : Stmt} {f : Addr} {fd : FuncData} {N ps : List Str} {k : Nat} {sp : Sp} (F : Fun K x qual st f fd) (S : FnScope N ps (defScope st)) (len : ∀ vs H Q E, sp vs H Q E → vs.length = ps.length)
    (hbody : ∀ (cdv : Value) (A : Around) (outer : List Env) (s : Shared) (H : Hp) (vs : List V) (Q : VK) (E : XK), Room k (A.deeper (envOfC qual (defScope st) s.heap.objs.size f cdv)) → A.guards = some [] → sp vs H Q E →
      ∃ t, PSs (cxOf (L2.CX P w) P w K mg base N qual (defScope st) f cdv A outer s H E) (defBody st) t ∧ t { nx := fun _ H' => Q .non H', rt := Q } (start N vs) H) : FnG P w K mg base (k + 1) f fd ps sp := by
  obtain ⟨oc, od, kV, doc, pm, an, cdv, ct, osl, rfl, lk, hcd⟩ := F.ex
  refine ⟨len, fun A outer s H args us vs Q E hr hg e0 hb r hsp => ?_⟩
  have hl := len _ _ _ _ hsp
  have there : K.In s.heap := e0.mod.kin.keeps fun b o e => (e0.bs b o e).1
  have lim : s.heap.NoLimit := e0.mod.nolimit.keeps fun b o e => (e0.bs b o e).1
  refine codeAny_call_function hr.depth (there _ _ lk) rfl S.co S.gen rfl (PySem.W.codeRec_of there hcd) (hb _ _ _ _ ?_)
  refine wpAny_newFunctionEnv_cells S.kind (fun ⟨n, v⟩ hy => ?_) fun env he s1 x => ?_
  · rcases S.par n (List.of_mem_zip hy).1 with q | q
    · exact .inl q
    · exact .inr ⟨q, PySem.W.cellsFrom_some _ _ _ (.inl q)⟩
  subst he
  refine ⟨lim.keeps x.toInCall.keep, codeAny_func ?_⟩
  obtain ⟨t, ht, hq⟩ := hbody cdv A outer s H vs Q E (hr.deeper _) hg hsp
  have I : Inv (cxOf (L2.CX P w) P w K mg base N qual (defScope st) f cdv A outer s H E) [] (start N vs) H s1 := inv_start S hr.hd e0 hl r x
  refine wpAny_mono (ht.run [] s1 (start N vs) H _ I hq) (fun fl s' hs => ?_) fun e s' hs => hs
  cases fl with
  | ret u =>
    obtain ⟨v, σ', H', J, rv, q⟩ := hs
    exact ⟨v, H', J.os, J.bare, J.base, J.hok, rv, q⟩
  | next =>
    obtain ⟨σ', H', J, q⟩ := hs
    exact ⟨.non, H', J.os, J.bare, J.base, J.hok, rfl, q⟩
  | brk => obtain ⟨_, _, _, q⟩ := hs; exact False.elim q
  | cont => obtain ⟨_, _, _, q⟩ := hs; exact False.elim q
end

section
variable {X : Cx} {k : Nat} {f : Addr} {fd : FuncData} {ps : List Str} {sp : Sp} {E : XK} {x : Str} {p pos : Pos} {e : Expr} {es : List Expr} {t : TA}
theorem run_fnG {pins : List (Addr × Obj)} {σ : L2.St} {H : Hp} {s : Shared} {Q : VK} {us : List Value} {vs : List V} (F : FnG X.prog X.w X.K X.mg X.base k f fd ps sp) (hr : Room k X.A) (hgd : X.A.guards = some []) (hb : L2.Binds X.K fd ps [])
    (hx : Passes (L2.CX X.prog X.w) X E) (I : L2.Inv X pins σ H s) (r : Vals vs us) (h : sp vs H Q E) : wpAny (model X.prog X.w) X.A (call (.ref f) us) (EP X pins σ Q) X.xe s := by
  have hl : (us ++ []).length = ps.length := by
    rw [List.append_nil, ← r.length]
    exact F.len _ _ _ _ h
  have hb1 := hb s us I.kIn hl
  rw [List.append_nil] at hb1
  refine wpAny_call (codeAny_mono (F.run X.A X.stack s H ⟨us, []⟩ us vs Q E hr hgd I.env0 hb1 r h) fun r s' hq => ?_)
  cases r with
  | error z => exact hx pins σ H s z s' I hq
  | ok fl =>
    cases fl with
    | ret u => exact I.after hq
    | next => exact False.elim hq
    | brk => exact False.elim hq
    | cont => exact False.elim hq
theorem pe_callG (F : FnG X.prog X.w X.K X.mg X.base k f fd ps sp) (hr : Room k X.A) (hgd : X.A.guards = some []) (hg : Gl X x) (hm : X.mg x = some (.ref f)) (hk : PySem.W.keepIn X.K (.ref f) = true) (hb : L2.Binds X.K fd ps [])
    (hx : Passes (L2.CX X.prog X.w) X E) (ha : PA X (e :: es) t) (hdb : (x == ("__debug__" : Str)) = false) (he : starEach (e :: es) X.env = (false, eval e X.env) :: starEach es X.env) (hpl : (backTo pos (starEach es X.env)).any (·.1) = false) :
    PE X (.Call (.Name x p) (e :: es) [] pos) (fun σ H Q => t σ H fun vs H1 => sp vs H1 Q E) := ⟨fun pins s σ H Q I h => by
  refine wpAny_Call_Name_kw (ld_glob I hg hm ?_ hdb)
  exact PySem.W.callWith_K (h₀ := X.base) I.ok.mod.kin hk (thn (ha.run pos pins s σ H _ I h) fun us s1 ⟨vs, H1, I1, r, q⟩ => ⟨I1.kIn, run_fnG F hr hgd hb hx I1 r q⟩) he hpl⟩
end

/-! calls of defs, by data -/
abbrev MF := List D → Store → RE
def spN (K : PySem.W.Frag) (mg : Str → Option Value) (n : Nat) (mf : MF) : Sp := fun vs H Q E =>
  ∃ B F r C ds, Rel K B F r H C ∧ Reps K F r ds vs ∧ ds.length = n ∧ Out (Rep K) K mg E B F r (mf ds C) Q
theorem spN_len {K : PySem.W.Frag} {mg : Str → Option Value} {n : Nat} {mf : MF} : ∀ vs H Q E, spN K mg n mf vs H Q E → vs.length = n := by
  intro vs H Q E h
  obtain ⟨B, F, r, C, ds, _, h2, h3, _⟩ := h
  rw [← h2.length]
  exact h3
section
variable {X : Cx} {E : XK} {a b c : Expr} {es : List Expr} {ma mb mc : ME} {ta tb : MG Bool} {mas : MG (List D)} {pos p1 : Pos}
def mF (n : Nat) (mf : MF) (mas : MG (List D)) : ME := fun sl C => (mas sl C).bind fun p => if p.1.length = n then mf p.1 p.2 else .no
theorem ne_call {x : Str} {e : Expr} {k n : Nat} {f : Addr} {fd : FuncData} {ps : List Str} {mf : MF} (F : FnG X.prog X.w X.K X.mg X.base k f fd ps (spN X.K X.mg n mf)) (hr : Room k X.A) (hgd : X.A.guards = some []) (hm : X.mg x = some (.ref f))
    (hk : PySem.W.keepIn X.K (.ref f) = true) (hb : L2.Binds X.K fd ps []) (hx : Passes (L2.CX X.prog X.w) X E) (ha : NA X E (e :: es) mas) (hg : Gl X x := by rfl) (hdb : (x == ("__debug__" : Str)) = false := by decide)
    (he : starEach (e :: es) X.env = (false, eval e X.env) :: starEach es X.env := by rfl) (hpl : (backTo pos (starEach es X.env)).any (·.1) = false := by rfl) : NE X E (.Call (.Name x p1) (e :: es) [] pos) (mF n mf mas) :=
  ⟨pe_imp (pe_callG F hr hgd hg hm hk hb hx ha.pa hdb he hpl) fun s H Q q => by
    obtain ⟨B, F, r, sl, C, hr, hs, o⟩ := q
    refine ⟨B, F, r, sl, C, hr, hs, Out.bind (P := Reps X.K) o fun x C1 F1 r1 H1 v e1 e2 hr1 hx o1 => ?_⟩
    simp only at o1
    split at o1
    · rename_i hl
      exact ⟨B, F1, r1, C1, x, hr1, hx, hl, o1⟩
    · exact False.elim o1⟩
end
end Nv

namespace Nv
open PySem PySem.Spec PyProof.Rows L2
section
variable {K : PySem.W.Frag} {mg : Str → Option Value} {E : XK} {B F H : Hp} {r : List Addr} {C : Store} {Q : VK} {X : Cx}

/-! is -/
def isD : D → D → Option Bool
  | .non, .non => some true
  | .bl a, .bl b => some (decide (a = b))
  | .non, _ => some false
  | .cell _, .non => some false
  | .int _, .non => some false
  | .str _, .non => some false
  | .bl _, .non => some false
  | .lst _, .non => some false
  | .tup _, .non => some false
  | .exc _ _ _, .non => some false
  | _, _ => none
def gIs (x y : D) (C : Store) : RE := match isD x y with
  | some b => match y with
    | .non => .ok (.bl b, C)
    | .bl _ => match x with
      | .bl _ => .ok (.bl b, C)
      | _ => .no
    | _ => .no
  | none => .no
def gIsNot (x y : D) (C : Store) : RE := match isD x y with
  | some b => match y with
    | .non => .ok (.bl (!b), C)
    | .bl _ => match x with
      | .bl _ => .ok (.bl (!b), C)
      | _ => .no
    | _ => .no
  | none => .no
def rIs2 : R2 := fun x y H Q => (y = .non ∧ Q (.bl (decide (x = .non))) H) ∨ rIsB x y H Q
theorem op_is2 : OpR X (compareOp .Is) rIs2 := op_isN.or op_isBl
theorem Rep.isNon {x : D} {v : V} (h : Rep K F r x v) {b : Bool} (e : isD x .non = some b) : decide (v = V.non) = b := by
  cases x with
  | non => cases e; exact decide_eq_true h
  | bl i => cases e; rw [show v = V.bl i from h]; rfl
  | int i => cases e; rw [show v = V.int i from h]; rfl
  | str i => cases e; rw [show v = V.str i from h]; rfl
  | lst i => cases e; obtain ⟨a, vs, h, _⟩ := h; rw [h]; rfl
  | tup i => cases e; obtain ⟨a, vs, h, _⟩ := h; rw [h]; rfl
  | cell i => cases e; obtain ⟨a, h, _⟩ := h; rw [h]; rfl
  | edct => cases e
  | exc _ _ _ => cases e; obtain ⟨a, C, us, h, _⟩ := h; rw [h]; rfl
  | fn a => cases e
theorem isN2 : OpN K mg E rIs2 gIs := by
  intro B F r H C x y v u Q hr hx hy o
  cases e : isD x y with
  | none => unfold gIs at o; rw [e] at o; exact False.elim o
  | some b =>
    unfold gIs at o
    rw [e] at o
    cases y with
    | non =>
      refine .inl ⟨hy, ?_⟩
      rw [hx.isNon e]
      exact out_ok (d := .bl b) hr rfl o
    | bl k =>
      cases x with
      | bl j =>
        cases e
        exact .inr ⟨j, k, hx, hy, out_ok (d := .bl (decide (j = k))) hr rfl o⟩
      | _ => exact False.elim o
    | _ => exact False.elim o
/-! in, of flat things -/
def flatD : D → Bool
  | .non => true
  | .bl _ => true
  | .int _ => true
  | .str _ => true
  | _ => false
def eqF : D → D → Bool
  | .non, .non => true
  | .bl a, .bl b => a == b
  | .bl a, .int b => (if a then 1 else 0) == b
  | .int a, .bl b => a == (if b then 1 else 0)
  | .int a, .int b => a == b
  | .str a, .str b => a == b
  | _, _ => false
def inF (x : D) (ds : List D) : Bool := ds.any fun y => eqF y x
def seqOf (C : Store) : D → Option (List D)
  | .lst ds => some ds
  | .tup ds => some ds
  | .cell i => lstAt C i
  | _ => none
theorem seqOf_ok {x : D} {v : V} {ds : List D} (hr : Rel K B F r H C) (hx : Rep K F r x v) (e : seqOf C x = some ds) : ∃ a vs, v = .ref a ∧ (SqL K H a vs ∨ SqT K H a vs) ∧ Reps K F r ds vs := by
  cases x with
  | lst ds' =>
    obtain ⟨a, vs, h1, h2, h3⟩ := lstOf_ok hr hx (show lstOf C (.lst ds') = some ds from e)
    exact ⟨a, vs, h1, .inl h2, h3⟩
  | tup ds' =>
    obtain ⟨a, vs, h1, h2, h3⟩ := tupOf_ok hr hx (show tupOf (.tup ds') = some ds from e)
    exact ⟨a, vs, h1, .inr h2, h3⟩
  | cell i =>
    obtain ⟨a, vs, h1, h2, h3⟩ := lstOf_ok hr hx (show lstOf C (.cell i) = some ds from e)
    exact ⟨a, vs, h1, .inl h2, h3⟩
  | _ => cases e
theorem flat_ok {x : D} {v : V} (h : Rep K F r x v) (f : flatD x = true) : flatV v = true := by
  cases x with
  | non => rw [show v = V.non from h]; rfl
  | bl b => rw [show v = V.bl b from h]; rfl
  | int b => rw [show v = V.int b from h]; rfl
  | str b => rw [show v = V.str b from h]; rfl
  | _ => cases f
theorem eqF_ok {x y : D} {v u : V} (h : Rep K F r x v) (k : Rep K F r y u) (f : flatD x = true) (g : flatD y = true) : eqV v u = eqF x y := by
  cases x with
  | non => rw [show v = V.non from h]; cases y with
    | non => rw [show u = V.non from k]; rfl
    | bl b => rw [show u = V.bl b from k]; rfl
    | int b => rw [show u = V.int b from k]; rfl
    | str b => rw [show u = V.str b from k]; rfl
    | _ => cases g
  | bl a => rw [show v = V.bl a from h]; cases y with
    | non => rw [show u = V.non from k]; rfl
    | bl b => rw [show u = V.bl b from k]; rfl
    | int b => rw [show u = V.int b from k]; rfl
    | str b => rw [show u = V.str b from k]; rfl
    | _ => cases g
  | int a => rw [show v = V.int a from h]; cases y with
    | non => rw [show u = V.non from k]; rfl
    | bl b => rw [show u = V.bl b from k]; rfl
    | int b => rw [show u = V.int b from k]; rfl
    | str b => rw [show u = V.str b from k]; rfl
    | _ => cases g
  | str a => rw [show v = V.str a from h]; cases y with
    | non => rw [show u = V.non from k]; rfl
    | bl b => rw [show u = V.bl b from k]; rfl
    | int b => rw [show u = V.int b from k]; rfl
    | str b => rw [show u = V.str b from k]; rfl
    | _ => cases g
  | _ => cases f
theorem flats_ok : ∀ {ds : List D} {vs : List V}, Reps K F r ds vs → ds.all flatD = true → vs.all flatV = true
  | [], _, h, _ => by cases (show _ = [] from h); rfl
  | d :: ds, _, h, f => by
    obtain ⟨v, w, rfl, h1, h2⟩ := h
    rw [List.all_cons, Bool.and_eq_true] at f ⊢
    exact ⟨flat_ok h1 f.1, flats_ok h2 f.2⟩
theorem inF_ok {x : D} {u : V} (k : Rep K F r x u) (g : flatD x = true) : ∀ {ds : List D} {vs : List V}, Reps K F r ds vs → ds.all flatD = true → inV u vs = inF x ds
  | [], _, h, _ => by cases (show _ = [] from h); rfl
  | d :: ds, _, h, f => by
    obtain ⟨v, w, rfl, h1, h2⟩ := h
    rw [List.all_cons, Bool.and_eq_true] at f
    have ih := inF_ok k g h2 f.2
    unfold inV inF at ih ⊢
    rw [List.any_cons, List.any_cons, ih, eqF_ok h1 k f.1 g]
/-- neg: not in -/
def gIn (neg : Bool) (x y : D) (C : Store) : RE := match seqOf C y with
  | some ds => if (flatD x && ds.all flatD) = true then .ok (.bl (if neg then !inF x ds else inF x ds), C) else .no
  | none => .no
theorem inN {neg : Bool} : OpN K mg E (rIn K neg) (gIn neg) := by
  intro B F r H C x y v u Q hr hx hy o
  unfold gIn at o
  split at o
  · rename_i ds e
    split at o
    · rename_i f
      rw [Bool.and_eq_true] at f
      obtain ⟨a, vs, h1, h2, h3⟩ := seqOf_ok hr hy e
      refine ⟨a, vs, h1, h2, flat_ok hx f.1, flats_ok h3 f.2, ?_⟩
      rw [inF_ok hx f.1 h3 f.2]
      exact out_ok (d := .bl (if neg then !inF x ds else inF x ds)) hr rfl o
    · exact False.elim o
  · exact False.elim o
/-! isinstance, built-in types -/
def tyD : D → Option String
  | .non => some "NoneType"
  | .bl _ => some "bool"
  | .int _ => some "int"
  | .str _ => some "str"
  | .lst _ => some "list"
  | .tup _ => some "tuple"
  | .edct => some "dict"
  | .cell _ => none
  | .fn _ => none
  | .exc _ _ _ => none
def tyC (C : Store) : D → Option String
  | .cell i => match C[i]? with
    | some (.lst _) => some "list"
    | some (.fz _) => some "list"
    | some (.dk _) => some "dict"
    | some (.dt _) => some "dict"
    | _ => none
  | d => tyD d
def kinds : List String := ["NoneType", "bool", "int", "str", "list", "tuple", "dict"]
def isB (a b : String) : Bool := a == b || (a == "bool" && b == "int")
theorem kit_kinds : ∀ a ∈ kinds, ∀ b ∈ kinds, kitB a b = some (isB a b) := by decide +kernel
theorem tyX_seqL {a : Addr} {vs : List V} (h : SqL K H a vs) : TyX K H (.ref a) (.type "list") := by
  rcases h with (h | ⟨o, h⟩) | ⟨o, its, n, h1, h2, _⟩
  · exact .base (.lst h)
  · exact .base (.frz h)
  · exact .kList h1 h2
theorem tyX_seqT {a : Addr} {vs : List V} (h : SqT K H a vs) : TyX K H (.ref a) (.type "tuple") := by
  rcases h with (h | ⟨o, h⟩) | ⟨o, its, n, h1, h2, _⟩
  · exact .base (.tup h)
  · exact .fTuple h
  · exact .kTuple h1 h2
theorem tyC_ok {x : D} {v : V} {T : String} (hr : Rel K B F r H C) (hx : Rep K F r x v) (e : tyC C x = some T) : T ∈ kinds ∧ TyX K H v (.type T) := by
  cases x with
  | non => cases e; rw [show v = V.non from hx]; exact ⟨by decide, .base .non⟩
  | bl b => cases e; rw [show v = V.bl b from hx]; exact ⟨by decide, .base (.bl b)⟩
  | int b => cases e; rw [show v = V.int b from hx]; exact ⟨by decide, .base (.int b)⟩
  | str b => cases e; rw [show v = V.str b from hx]; exact ⟨by decide, .base (.str b)⟩
  | lst ds =>
    cases e
    obtain ⟨a, vs, rfl, h2, _⟩ := lstOf_ok hr hx (show lstOf C (.lst ds) = some ds from rfl)
    exact ⟨by decide, tyX_seqL h2⟩
  | tup ds =>
    cases e
    obtain ⟨a, vs, rfl, h2, _⟩ := tupOf_ok hr hx (show tupOf (.tup ds) = some ds from rfl)
    exact ⟨by decide, tyX_seqT h2⟩
  | edct =>
    cases e
    obtain ⟨a, rfl, h⟩ := hx
    exact ⟨by decide, .base (.dK (hr.froz _ _ h))⟩
  | cell i =>
    obtain ⟨a, rfl, h⟩ := hx
    have e : (match C[i]? with
    | some (.lst _) => some "list"
    | some (.fz _) => some "list"
    | some (.dk _) => some "dict"
    | some (.dt _) => some "dict"
    | _ => none) = some T := e
    split at e
    · rename_i ds hc
      cases e
      obtain ⟨_, vs, h3, _⟩ := hr.cells i _ a hc h
      exact ⟨by decide, .base (.lst h3)⟩
    · rename_i ds hc
      cases e
      obtain ⟨vs, h3, _⟩ := hr.cells i _ a hc h
      exact ⟨by decide, .base (.lst (hr.froz _ _ h3))⟩
    · rename_i ds hc
      cases e
      obtain ⟨_, vs, h3, _⟩ := hr.cells i _ a hc h
      exact ⟨by decide, .base (.dK h3)⟩
    · rename_i ds hc
      cases e
      obtain ⟨_, vs, h3, _⟩ := hr.cells i _ a hc h
      exact ⟨by decide, .base (.dT h3)⟩
    · cases e
  | fn a => cases e
  | exc c f a => cases e
/-- isinstance(x, T) -/
def gIsi (T : String) (x : D) (C : Store) : RE := match tyC C x with
  | some t => .ok (.bl (isB t T), C)
  | none => .no
def gIsiL (Ts : List String) (x : D) (C : Store) : RE := match tyC C x with
  | some t => .ok (.bl (Ts.any (isB t)), C)
  | none => .no
end
end Nv

namespace Nv
open PySem PySem.Spec PyProof.Rows L2
def blsOf : List D → Option (List Bool)
  | [] => some []
  | .bl i :: r => (blsOf r).map (i :: ·)
  | _ :: _ => none
theorem blsOf_map : ∀ ns : List Bool, blsOf (ns.map D.bl) = some ns
  | [] => rfl
  | n :: r => by simp [blsOf, blsOf_map r]
theorem blsOf_eq : ∀ {ds : List D} {ns : List Bool}, blsOf ds = some ns → ds = ns.map D.bl
  | [], _, h => by cases h; rfl
  | d :: ds, ns, h => by
    cases d with
    | bl i =>
      obtain ⟨ms, e, rfl⟩ := map_some (show (blsOf ds).map (i :: ·) = some ns from h)
      rw [blsOf_eq e]
      rfl
    | _ => cases h
section
variable {K : PySem.W.Frag} {mg : Str → Option Value} {E : XK} {B F H : Hp} {r : List Addr} {C : Store} {Q : VK} {X : Cx}
theorem Reps.bls : ∀ {ns : List Bool} {vs : List V}, Reps K F r (ns.map D.bl) vs → vs = ns.map V.bl
  | [], _, h => h
  | n :: ns, _, h => by
    obtain ⟨v, w, rfl, h1, h2⟩ := h
    rw [Reps.bls h2, show v = V.bl n from h1]
    rfl
/-! one argument -/
def on1 (g : D → Store → RE) : List D → Store → RE := fun ds C => match ds with
  | [x] => g x C
  | _ => .no
def on2 (g : D → D → Store → RE) : List D → Store → RE := fun ds C => match ds with
  | [x, y] => g x y C
  | _ => .no
theorem on1N {rc : List V → Hp → VK → Prop} {g : D → Store → RE} (h : ∀ (B F : Hp) (r : List Addr) (H : Hp) (C : Store) (x : D) (v : V) (Q : VK), Rel K B F r H C → Rep K F r x v → Out (Rep K) K mg E B F r (g x C) Q → rc [v] H Q) : CallN K mg E rc (on1 g) := by
  intro B F r H C ds vs Q hr hd o
  unfold on1 at o
  split at o
  · rename_i x
    obtain ⟨v, w, rfl, h1, h2⟩ := hd
    cases (show w = [] from h2)
    exact h B F r H C x v Q hr h1 o
  · exact False.elim o
theorem on2N {rc : List V → Hp → VK → Prop} {g : D → D → Store → RE} (h : ∀ (B F : Hp) (r : List Addr) (H : Hp) (C : Store) (x y : D) (v u : V) (Q : VK), Rel K B F r H C → Rep K F r x v → Rep K F r y u → Out (Rep K) K mg E B F r (g x y C) Q → rc [v, u] H Q) : CallN K mg E rc (on2 g) := by
  intro B F r H C ds vs Q hr hd o
  unfold on2 at o
  split at o
  · rename_i x y
    obtain ⟨v, w, rfl, h1, u, w', rfl, h2, h3⟩ := hd
    cases (show w' = [] from h3)
    exact h B F r H C x y v u Q hr h1 h2 o
  · exact False.elim o
/-! len -/
def gLen (x : D) (C : Store) : RE := match x with
  | .str s => if s.length ≤ sizeLine then .ok (.int s.length, C) else .no
  | x => match seqOf C x with
    | some ds => .ok (.int ds.length, C)
    | none => .no
theorem lenN : CallN K mg E (fun xs H Q => ∃ x n, xs = [x] ∧ LenV K x H n ∧ Q (.int n) H) (on1 gLen) := on1N fun B F r H C x v Q hr hx o => by
  have sq : ∀ (o : Out (Rep K) K mg E B F r (match seqOf C x with
    | some ds => .ok (.int ds.length, C)
    | none => .no) Q), ∃ z n, [v] = [z] ∧ LenV K z H n ∧ Q (.int n) H := fun o => by
    split at o
    · rename_i ds e
      obtain ⟨a, vs, rfl, h2, h3⟩ := seqOf_ok hr hx e
      refine ⟨.ref a, ds.length, rfl, ?_, out_ok (d := .int ds.length) hr rfl o⟩
      rcases h2 with h2 | h2
      · exact .inl ⟨vs, h2, h3.length⟩
      · exact .inr ⟨vs, h2, h3.length⟩
    · exact False.elim o
  cases x with
  | str s =>
    have o : Out (Rep K) K mg E B F r (if s.length ≤ sizeLine then .ok (.int s.length, C) else .no) Q := o
    split at o
    · rename_i hl
      rw [show v = V.str s from hx]
      exact ⟨.str s, s.length, rfl, ⟨hl, rfl⟩, out_ok (d := .int s.length) hr rfl o⟩
    · exact False.elim o
  | _ => exact sq o
/-! max, min, abs, int, str of whole numbers -/
def gMax2 (x y : D) (C : Store) : RE := match x, y with
  | .int i, .int j => .ok (.int (max i j), C)
  | _, _ => .no
def gMin2 (x y : D) (C : Store) : RE := match x, y with
  | .int i, .int j => .ok (.int (min i j), C)
  | _, _ => .no
theorem max2N : CallN K mg E (fun xs H Q => ∃ i j, xs = [.int i, .int j] ∧ Q (.int (if j > i then j else i)) H) (on2 gMax2) := on2N fun B F r H C x y v u Q hr hx hy o => by
  cases x with
  | int i =>
    cases y with
    | int j =>
      refine ⟨i, j, by rw [show v = V.int i from hx, show u = V.int j from hy], ?_⟩
      have e : (if j > i then j else i) = max i j := by split <;> omega
      rw [e]
      exact out_ok (d := .int (max i j)) hr rfl o
    | _ => exact False.elim o
  | _ => exact False.elim o
theorem min2N : CallN K mg E (fun xs H Q => ∃ i j, xs = [.int i, .int j] ∧ Q (.int (if j < i then j else i)) H) (on2 gMin2) := on2N fun B F r H C x y v u Q hr hx hy o => by
  cases x with
  | int i =>
    cases y with
    | int j =>
      refine ⟨i, j, by rw [show v = V.int i from hx, show u = V.int j from hy], ?_⟩
      have e : (if j < i then j else i) = min i j := by split <;> omega
      rw [e]
      exact out_ok (d := .int (min i j)) hr rfl o
    | _ => exact False.elim o
  | _ => exact False.elim o
def gInt (x : D) (C : Store) : RE := match x with
  | .int i => .ok (.int i, C)
  | .bl b => .ok (.int (if b then 1 else 0), C)
  | .str a => match PySem.intText? a with
    | some n => if a.length ≤ 640 then .ok (.int n, C) else .no
    | none => .no
  | _ => .no
def rInt3 : List V → Hp → VK → Prop := fun xs H Q => ((∃ i, xs = [.int i] ∧ Q (.int i) H) ∨ ∃ k, xs = [.bl k] ∧ Q (.int (if k then 1 else 0)) H) ∨ ∃ a n, xs = [.str a] ∧ PySem.intText? a = some n ∧ a.length ≤ 640 ∧ Q (.int n) H
theorem call_int3 : CallR X (.type "int") rInt3 := call_int1.or call_int_str
theorem intN : CallN K mg E rInt3 (on1 gInt) := on1N fun B F r H C x v Q hr hx o => by
  cases x with
  | int i => exact .inl (.inl ⟨i, by rw [show v = V.int i from hx], out_ok (d := .int i) hr rfl o⟩)
  | bl i => exact .inl (.inr ⟨i, by rw [show v = V.bl i from hx], out_ok (d := .int (if i then 1 else 0)) hr rfl o⟩)
  | str a =>
    have o : Out (Rep K) K mg E B F r (match PySem.intText? a with
    | some n => if a.length ≤ 640 then .ok (.int n, C) else .no
    | none => .no) Q := o
    split at o
    · rename_i n e
      split at o
      · rename_i hl
        exact .inr ⟨a, n, by rw [show v = V.str a from hx], e, hl, out_ok (d := .int n) hr rfl o⟩
      · exact False.elim o
    · exact False.elim o
  | _ => exact False.elim o
/-! lists and tuples of lists and tuples -/
def gList (c : Bool) (x : D) (C : Store) : RE := match seqOf C x with
  | some ds => newL c ds C
  | none => .no
theorem listN {c : Bool} : CallN K mg E (fun xs H Q => ∃ p ys, xs = [.ref p] ∧ (SqL K H p ys ∨ SqT K H p ys) ∧ ∀ l, H l = none → Q (.ref l) (upd H l (.lst ys))) (on1 (gList c)) := on1N fun B F r H C x v Q hr hx o => by
  unfold gList at o
  split at o
  · rename_i ds e
    obtain ⟨a, vs, rfl, h2, h3⟩ := seqOf_ok hr hx e
    exact ⟨a, vs, rfl, h2, fun l hl => newL_ok hr h3 o hl⟩
  · exact False.elim o
def gTuple (x : D) (C : Store) : RE := match x with
  | .tup ds => .ok (.tup ds, C)
  | x => match lstOf C x with
    | some ds => .ok (.tup ds, C)
    | none => .no
theorem tupleN : CallN K mg E (fun xs H Q => ∃ p ys, xs = [.ref p] ∧ ((SqL K H p ys ∧ ∀ l, H l = none → Q (.ref l) (upd H l (.tup ys))) ∨ (SqT K H p ys ∧ Q (.ref p) H))) (on1 gTuple) := on1N fun B F r H C x v Q hr hx o => by
  have sq : ∀ (o : Out (Rep K) K mg E B F r (match lstOf C x with
    | some ds => .ok (.tup ds, C)
    | none => .no) Q), ∃ p ys, [v] = [V.ref p] ∧ ((SqL K H p ys ∧ ∀ l, H l = none → Q (.ref l) (upd H l (.tup ys))) ∨ (SqT K H p ys ∧ Q (.ref p) H)) := fun o => by
    split at o
    · rename_i ds e
      obtain ⟨a, vs, rfl, h2, h3⟩ := lstOf_ok hr hx e
      exact ⟨a, vs, rfl, .inl ⟨h2, fun l hl => newT_ok hr h3 o hl⟩⟩
    · exact False.elim o
  cases x with
  | tup ds =>
    obtain ⟨a, vs, h1, h2, h3⟩ := tupOf_ok hr hx (show tupOf (.tup ds) = some ds from rfl)
    exact ⟨a, vs, by rw [h1], .inr ⟨h2, out_ok (d := .tup ds) hr (h1 ▸ hx) o⟩⟩
  | _ => exact sq o
/-! all, any, sum, max, min, sorted -/
def gAll (x : D) (C : Store) : RE := match (lstOf C x).bind blsOf with
  | some bs => .ok (.bl (bs.all id), C)
  | none => .no
theorem bind_some {A B : Type} {o : Option A} {f : A → Option B} {b : B} (h : o.bind f = some b) : ∃ a, o = some a ∧ f a = some b := by
  cases o with
  | none => cases h
  | some a => exact ⟨a, rfl, h⟩
theorem bls_ok {x : D} {v : V} {bs : List Bool} (hr : Rel K B F r H C) (hx : Rep K F r x v) (e : (lstOf C x).bind blsOf = some bs) : ∃ a, v = .ref a ∧ SqL K H a (bs.map V.bl) := by
  obtain ⟨ds, e1, e2⟩ := bind_some e
  obtain ⟨a, vs, rfl, h2, h3⟩ := lstOf_ok hr hx e1
  rw [blsOf_eq e2] at h3
  rw [h3.bls] at h2
  exact ⟨a, rfl, h2⟩
theorem allN : CallN K mg E (rAll K) (on1 gAll) := on1N fun B F r H C x v Q hr hx o => by
  unfold gAll at o
  split at o
  · rename_i bs e
    obtain ⟨a, rfl, h⟩ := bls_ok hr hx e
    exact ⟨a, bs, rfl, h, out_ok (d := .bl (bs.all id)) hr rfl o⟩
  · exact False.elim o
end
end Nv

namespace Nv
open PySem PySem.Spec PyProof.Rows L2
section
variable {K : PySem.W.Frag} {mg : Str → Option Value} {E : XK} {B F H : Hp} {r : List Addr} {C : Store} {Q : VK} {X : Cx} {a b e : Expr} {es : List Expr} {ma mb mo : ME} {mas : MG (List D)} {pos p1 p2 p3 : Pos}

/-! isinstance -/
theorem ne_isi {T : Str} {Ts : String} (hm : X.mg "isinstance" = none) (hmT : X.mg T = none) (hbT : bootBuiltins T = some (.type Ts)) (hT : Ts ∈ kinds) (ha : NE X E a ma) (hl : Gl X "isinstance" := by rfl) (hlT : Gl X T := by rfl)
    (h1 : T ≠ "__name__" := by decide) (h2 : (T == ("__debug__" : Str)) = false := by decide) (hs : starEach [a, .Name T p2] X.env = (false, eval a X.env) :: starEach [.Name T p2] X.env := by rfl)
    (hs2 : starEach [.Name T p2] X.env = (false, eval (.Name T p2) X.env) :: starEach [] X.env := by rfl) (hpl : (backTo pos (starEach [.Name T p2] X.env)).any (·.1) = false := by rfl) :
    NE X E (.Call (.Name "isinstance" p1) [a, .Name T p2] [] pos) (m1 (gIsi Ts) ma) :=
  ⟨pe_imp (pe_callB call_isi hl hm boot_isinstance (pa_cons ha.pe (pa_cons (pe_bltn (v := .ty Ts) hlT hmT hbT rfl h1 h2) pa_nil hs2) hs) (by decide) (by decide) hs hpl) fun s H Q q => by
    obtain ⟨B, F, r, sl, C, hr, hs, o⟩ := q
    refine ⟨B, F, r, sl, C, hr, hs, Out.bind (P := Rep X.K) o fun x C1 F1 r1 H1 v e1 e2 hr1 hx o1 => ?_⟩
    simp only [gIsi] at o1
    split at o1
    · rename_i t et
      obtain ⟨k1, k2⟩ := tyC_ok hr1 hx et
      exact ⟨v, .ty Ts, .type t, .type Ts, isB t Ts, rfl, .ty Ts, k2, kit_ty (kit_kinds t k1 Ts hT), out_ok (d := .bl (isB t Ts)) hr1 rfl o1⟩
    · exact False.elim o1⟩
/-- a row of names of built-in types -/
structure TyArgs (X : Cx) (es : List Expr) (Ts : List String) : Prop where
  pa : PA X es fun _ H Q => Q (Ts.map V.ty) H
/-! list(range(..)), [..] * n -/
def intOf : D → Option Int
  | .int i => some i
  | _ => none
theorem intOf_ok {x : D} {v : V} {i : Int} (hx : Rep K F r x v) (e : intOf x = some i) : v = .int i := by
  cases x with
  | int j => cases e; exact hx
  | _ => cases e
def rangeD (a b : Int) : List D := (List.range (b - a).toNat).map fun i => D.int (a + (i : Nat))
theorem range_ok (a b : Int) : Reps K F r (rangeD a b) (rgV a b) := by
  unfold rangeD rgV
  generalize (b - a).toNat = n
  generalize List.range n = l
  induction l with
  | nil => exact .nil
  | cons i l ih => exact .cons rfl ih
/-- small numbers: ranges and indices -/
def lowI (i : Int) : Bool := decide (-(2 ^ 20) ≤ i) && decide (i ≤ 2 ^ 20)
theorem lowI_ok {i : Int} (h : lowI i = true) : -(2 ^ 20) ≤ i ∧ i ≤ 2 ^ 20 := by
  unfold lowI at h
  rw [Bool.and_eq_true] at h
  exact ⟨of_decide_eq_true h.1, of_decide_eq_true h.2⟩
theorem rg_ok {a b : Int} (h : (lowI a && lowI b) = true) : RgOk a b := by
  rw [Bool.and_eq_true] at h
  have h1 := lowI_ok h.1
  have h2 := lowI_ok h.2
  unfold RgOk
  omega
def gRg (c : Bool) (x y : D) (C : Store) : RE := match intOf x, intOf y with
  | some i, some j => if (lowI i && lowI j) = true then newL c (rangeD i j) C else .no
  | _, _ => .no
theorem ne_listRg2 {c : Bool} (hc : X.calm = true) (hml : X.mg "list" = none) (hmr : X.mg "range" = none) (ha : NE X E a ma) (hb : NE X E b mb) (hgl : Gl X "list" := by rfl) (hgr : Gl X "range" := by rfl)
    (na : starEach [a, b] X.env = (false, eval a X.env) :: starEach [b] X.env := by rfl) (nb : starEach [b] X.env = (false, eval b X.env) :: starEach [] X.env := by rfl) (hp : (backTo p2 (starEach [b] X.env)).any (·.1) = false := by rfl)
    (nl : starEach [.Call (.Name "range" p3) [a, b] [] p2] X.env = (false, eval (.Call (.Name "range" p3) [a, b] [] p2) X.env) :: starEach [] X.env := by rfl) :
    NE X E (.Call (.Name "list" p1) [.Call (.Name "range" p3) [a, b] [] p2] [] pos) (m2 (gRg c) ma mb) :=
  ⟨pe_imp (pe_listRg hc hgl hml (prg_2 hgr hmr ha.pe hb.pe na nb hp) nl) fun s H Q q => by
    obtain ⟨B, F, r, sl, C, hr, hs, o⟩ := q
    refine ⟨B, F, r, sl, C, hr, hs, Out.bind (P := Rep X.K) o fun x C1 F1 r1 H1 v e1 e2 hr1 hx o1 => ?_⟩
    refine ⟨B, F1, r1, sl, C1, hr1, hs.mono e1 e2, Out.bind (P := Rep X.K) o1 fun y C2 F2 r2 H2 u e3 e4 hr2 hy o2 => ?_⟩
    simp only [gRg] at o2
    split at o2
    · rename_i i j ei ej
      split at o2
      · rename_i hl
        exact ⟨i, j, intOf_ok hx ei, intOf_ok hy ej, rg_ok hl, fun q hq => newL_ok hr2 (range_ok i j) o2 hq⟩
      · exact False.elim o2
    · exact False.elim o2⟩
theorem ne_listRg1 {c : Bool} (hc : X.calm = true) (hml : X.mg "list" = none) (hmr : X.mg "range" = none) (ha : NE X E a ma) (hgl : Gl X "list" := by rfl) (hgr : Gl X "range" := by rfl)
    (na : starEach [a] X.env = (false, eval a X.env) :: starEach [] X.env := by rfl)
    (nl : starEach [.Call (.Name "range" p3) [a] [] p2] X.env = (false, eval (.Call (.Name "range" p3) [a] [] p2) X.env) :: starEach [] X.env := by rfl) :
    NE X E (.Call (.Name "list" p1) [.Call (.Name "range" p3) [a] [] p2] [] pos) (m1 (gRg c (.int 0)) ma) :=
  ⟨pe_imp (pe_listRg hc hgl hml (prg_1 hgr hmr ha.pe na) nl) fun s H Q q => by
    obtain ⟨B, F, r, sl, C, hr, hs, o⟩ := q
    refine ⟨B, F, r, sl, C, hr, hs, Out.bind (P := Rep X.K) o fun x C1 F1 r1 H1 v e1 e2 hr1 hx o1 => ?_⟩
    have o1 : Out (Rep X.K) X.K X.mg E B F1 r1 (match intOf (.int 0), intOf x with
      | some i, some j => if (lowI i && lowI j) = true then newL c (rangeD i j) C1 else .no
      | _, _ => .no) Q := o1
    split at o1
    · rename_i i j ei ej
      cases ei
      split at o1
      · rename_i hl
        exact ⟨j, intOf_ok hx ej, rg_ok hl, fun q hq => newL_ok hr1 (range_ok 0 j) o1 hq⟩
      · exact False.elim o1
    · exact False.elim o1⟩
def mRep (c : Bool) (mas : MG (List D)) (mb : ME) : ME := fun sl C => (mas sl C).bind fun p => if p.1.length ≤ sizeLine then (mb sl p.2).bind fun q => match intOf q.1 with
    | some k => if lowI k = true ∧ p.1.length * k.toNat ≤ sizeLine then newL c (List.replicate k.toNat p.1).flatten q.2 else .no
    | none => .no
  else .no
theorem ne_rep {c : Bool} (ha : NA X E es mas) (hb : NE X E b mb) : NE X E (.BinOp (.List es p1) .Mult b pos) (mRep c mas mb) :=
  ⟨pe_imp (pe_op op_rep (pe_lst ha.pa) hb.pe) fun s H Q q => by
    obtain ⟨B, F, r, sl, C, hr, hs, o⟩ := q
    refine ⟨B, F, r, sl, C, hr, hs, Out.bind (P := Reps X.K) o fun x C1 F1 r1 H1 v e1 e2 hr1 hx o1 => ?_⟩
    simp only at o1
    split at o1
    · rename_i hz
      refine ⟨by rw [← hx.length]; exact hz, fun p hp => ?_⟩
      have hF := same_new (o := HO.lst v) (hr1.freeF hp)
      have hr1' := hr1.freeze (o := HO.lst v) hp
      refine ⟨B, upd F1 p (.lst v), r1, sl, C1, hr1', (hs.mono e1 e2).mono hF (.refl _), Out.bind (P := Rep X.K) (o1.mono hF (.refl _)) fun y C2 F2 r2 H2 u e3 e4 hr2 hy o2 => ?_⟩
      simp only at o2
      split at o2
      · rename_i k ek
        split at o2
        · rename_i hl
          have hk := lowI_ok hl.1
          have hx2 := hx.mono (hF.trans e3) e4
          exact ⟨p, k, v, rfl, intOf_ok hy ek, hr2.froz _ _ (e3 _ _ upd_same), by omega, by omega, by rw [← hx.length]; exact hl.2, fun q hq => newL_ok hr2 (hx2.rep k.toNat) o2 hq⟩
        · exact False.elim o2
      · exact False.elim o2
    · exact False.elim o1⟩
/-! items -/
theorem atI_ok {ds : List D} {vs : List V} {i : Int} {d : D} (h : Reps K F r ds vs) (e : atI ds i = some d) : ∃ v, atI vs i = some v ∧ Rep K F r d v := by
  unfold atI at e ⊢
  rw [← h.length]
  obtain ⟨j, e1, e2⟩ := bind_some e
  obtain ⟨v, h1, h2⟩ := h.get e2
  rw [e1]
  exact ⟨v, h1, h2⟩
def gIx (x y : D) (C : Store) : RE := match intOf y with
  | some i => match x with
    | .str z => if z.length ≤ sizeLine then match atI z.cps.toList i with
        | some c => .ok (.str ⟨#[c]⟩, C)
        | none => .no
      else .no
    | x => match (seqOf C x).bind fun ds => atI ds i with
      | some d => .ok (d, C)
      | none => .no
  | none => .no
theorem ixN_ok : OpN K mg E (rIx K) gIx := by
  intro B F r H C x y v u Q hr hx hy o
  cases ei : intOf y with
  | none => unfold gIx at o; rw [ei] at o; exact False.elim o
  | some i =>
    unfold gIx at o
    rw [ei] at o
    have hu := intOf_ok hy ei
    have sq : ∀ (o : Out (Rep K) K mg E B F r (match (seqOf C x).bind fun ds => atI ds i with
      | some d => .ok (d, C)
      | none => .no) Q), rIx K v u H Q := fun o => by
      split at o
      · rename_i d e
        obtain ⟨ds, e1, e2⟩ := bind_some e
        obtain ⟨a, vs, rfl, h2, h3⟩ := seqOf_ok hr hx e1
        obtain ⟨w, h4, h5⟩ := atI_ok h3 e2
        rcases h2 with h2 | h2
        · exact .inl ⟨a, vs, i, w, rfl, hu, h2, h4, out_ok hr h5 o⟩
        · exact .inr (.inl ⟨a, vs, i, w, rfl, hu, h2, h4, out_ok hr h5 o⟩)
      · exact False.elim o
    cases x with
    | str z =>
      have o : Out (Rep K) K mg E B F r (if z.length ≤ sizeLine then match atI z.cps.toList i with
        | some c => .ok (.str ⟨#[c]⟩, C)
        | none => .no
      else .no) Q := o
      split at o
      · rename_i hz
        split at o
        · rename_i c ec
          exact .inr (.inr ⟨z, i, c, hx, hu, hz, ec, out_ok (d := .str ⟨#[c]⟩) hr rfl o⟩)
        · exact False.elim o
      · exact False.elim o
    | _ => exact sq o
theorem ne_ix (ha : NE X E a ma) (hb : NE X E b mb) (hs : PlainIx b := by exact fun _ _ => rfl) : NE X E (.Subscript a b pos) (m2 gIx ma mb) :=
  ⟨pe_imp (pe_ix ix_seq ha.pe hb.pe hs) (two ixN_ok)⟩

/-! slices -/
def cutD (xs : List D) (lo hi : Option Int) : List D := (xs.drop (HT.sIx xs.length 0 lo)).take (HT.sIx xs.length xs.length hi - HT.sIx xs.length 0 lo)
theorem cut_ok {ds : List D} {vs : List V} (h : Reps K F r ds vs) (lo hi : Option Int) : Reps K F r (cutD ds lo hi) (cutV vs lo hi) := by
  unfold cutD cutV
  rw [h.length]
  exact (h.drop _).take _
structure NO (X : Cx) (E : XK) (e : Option Expr) (m : MG (Option Int)) : Prop where
  po : PO X e (LG (fun _ _ a b => a = b) X.K X.mg E m)
theorem po_imp {X : Cx} {e : Option Expr} {t t' : TO} (h : PO X e t) (hi : ∀ s H Q, t' s H Q → t s H Q) : PO X e t' := ⟨fun pins s σ H Q I q => h.run pins s σ H Q I (hi _ _ _ q)⟩
def oNone : MG (Option Int) := fun _ C => .ok (none, C)
def oSome (m : ME) : MG (Option Int) := fun sl C => (m sl C).bind fun p => match intOf p.1 with
  | some i => .ok (some i, p.2)
  | none => .no
theorem no_none : NO X E none oNone := ⟨po_imp po_none fun s H Q q => by
    obtain ⟨B, F, r, sl, C, hr, hs, o⟩ := q
    exact o F r H none (.refl _) (.refl _) hr rfl⟩
theorem no_some (ha : NE X E a ma) : NO X E (some a) (oSome ma) := ⟨po_imp (po_some ha.pe) fun s H Q q => by
    obtain ⟨B, F, r, sl, C, hr, hs, o⟩ := q
    refine ⟨B, F, r, sl, C, hr, hs, Out.bind (P := Rep X.K) o fun x C1 F1 r1 H1 v e1 e2 hr1 hx o1 => ?_⟩
    simp only at o1
    split at o1
    · rename_i i ei
      exact ⟨i, intOf_ok hx ei, o1 F1 r1 H1 (some i) (.refl _) (.refl _) hr1 rfl⟩
    · exact False.elim o1⟩
def gSl (c : Bool) (x : D) (lo hi : Option Int) (C : Store) : RE := match x with
  | .str z => if z.length ≤ sizeLine then .ok (.str (cutS z lo hi), C) else .no
  | x => match lstOf C x with
    | some ds => newL c (cutD ds lo hi) C
    | none => .no
def mSl (c : Bool) (ma : ME) (ml mh : MG (Option Int)) : ME := fun sl C => (ma sl C).bind fun p => (ml sl p.2).bind fun q => (mh sl q.2).bind fun t => gSl c p.1 q.1 t.1 t.2
theorem ne_sl {c : Bool} {lo hi : Option Expr} {ml mh : MG (Option Int)} (ha : NE X E a ma) (hl : NO X E lo ml) (hh : NO X E hi mh) : NE X E (.Subscript a (.Slice lo hi none p2) pos) (mSl c ma ml mh) :=
  ⟨pe_imp (pe_slice (sl_list.or sl_str) ha.pe hl.po hh.po) fun s H Q q => by
    obtain ⟨B, F, r, sl, C, hr, hs, o⟩ := q
    refine ⟨B, F, r, sl, C, hr, hs, Out.bind (P := Rep X.K) o fun x C1 F1 r1 H1 v e1 e2 hr1 hx o1 => ?_⟩
    refine ⟨B, F1, r1, sl, C1, hr1, hs.mono e1 e2, Out.bind (P := fun _ _ a b => a = b) o1 fun y C2 F2 r2 H2 u e3 e4 hr2 hy o2 => ?_⟩
    refine ⟨B, F2, r2, sl, C2, hr2, (hs.mono e1 e2).mono e3 e4, Out.bind (P := fun _ _ a b => a = b) o2 fun z C3 F3 r3 H3 w e5 e6 hr3 hz o3 => ?_⟩
    subst hy hz
    have hx3 := (hx.mono e3 e4).mono e5 e6
    have sq : ∀ (o : Out (Rep X.K) X.K X.mg E B F3 r3 (match lstOf C3 x with
      | some ds => newL c (cutD ds y z) C3
      | none => .no) Q), rSlL X.K v y z H3 Q ∨ rSlS v y z H3 Q := fun o => by
      split at o
      · rename_i ds e
        obtain ⟨a, vs, rfl, h2, h3⟩ := lstOf_ok hr3 hx3 e
        exact .inl ⟨a, vs, rfl, h2, fun p hp => newL_ok hr3 (cut_ok h3 y z) o hp⟩
      · exact False.elim o
    cases x with
    | str zz =>
      have o3 : Out (Rep X.K) X.K X.mg E B F3 r3 (if zz.length ≤ sizeLine then .ok (.str (cutS zz y z), C3) else .no) Q := o3
      split at o3
      · rename_i hl
        exact .inr ⟨zz, hx, hl, out_ok (d := .str (cutS zz y z)) hr3 rfl o3⟩
      · exact False.elim o3
    | _ => exact sq o3⟩

/-! methods of lists -/
def isL (C : Store) (x : D) : Bool := (lstOf C x).isSome
def mMt (chk : Store → D → Bool) (g : D → List D → Store → RE) (mo : ME) (mas : MG (List D)) : ME := fun sl C => (mo sl C).bind fun p => if chk p.2 p.1 = true then (mas sl p.2).bind fun q => g p.1 q.1 q.2 else .no
def ChkN (K : PySem.W.Frag) (T : String) (chk : Store → D → Bool) : Prop := ∀ (B F : Hp) (r : List Addr) (H : Hp) (C : Store) (x : D) (v : V), Rel K B F r H C → Rep K F r x v → chk C x = true → tyV K T v H
def MtN (K : PySem.W.Frag) (mg : Str → Option Value) (E : XK) (rm : V → List V → Hp → VK → Prop) (g : D → List D → Store → RE) : Prop :=
  ∀ (B F : Hp) (r : List Addr) (H : Hp) (C : Store) (x : D) (v : V) (ds : List D) (vs : List V) (Q : VK), Rel K B F r H C → Rep K F r x v → Reps K F r ds vs → Out (Rep K) K mg E B F r (g x ds C) Q → rm v vs H Q
theorem chk_list : ChkN K "list" isL := by
  intro B F r H C x v hr hx h
  unfold isL at h
  cases e : lstOf C x with
  | none => rw [e] at h; cases h
  | some ds =>
    obtain ⟨a, vs, rfl, h2, _⟩ := lstOf_ok hr hx e
    exact .inl ⟨rfl, vs, h2⟩
def isS (C : Store) (x : D) : Bool := match x with
  | .str _ => true
  | _ => false
theorem ne_mt {o : Expr} {name : Str} {apos cpos : Pos} {T id : String} {rm : V → List V → Hp → VK → Prop} {chk : Store → D → Bool} {g : D → List D → Store → RE} (pa : PlainAttrs T) (slot : Slot T name id)
    (hty : typeOf (.builtin id) = pure (.type "method_descriptor")) (hm : MtR X id rm) (hc : ChkN X.K T chk) (hg : MtN X.K X.mg E rm g) (ho : NE X E o mo) (ha : NA X E (e :: es) mas) (hbase : attributeBase o name X.env (eval o X.env) = eval o X.env := by rfl)
    (hfew : ((backTo cpos (starEach (e :: es) X.env)).all (fun x => !x.1) && (backToKw cpos (keywordEach [] X.env)).all (fun x => x.1.isSome)
      && decide ((e :: es).length + ([] : List Keyword).length + (if ([] : List Keyword).isEmpty then 0 else 1) < 30)) = true := by rfl)
    (hline : (apos.endLine == cpos.line) = true := by rfl) (hs : starEach (e :: es) X.env = (false, eval e X.env) :: starEach es X.env := by rfl) (hplain : (backTo cpos (starEach es X.env)).any (·.1) = false := by rfl) :
    NE X E (.Call (.Attribute o name apos) (e :: es) [] cpos) (mMt chk g mo mas) :=
  ⟨pe_imp (pe_bm pa slot hty hm ho.pe ha.pa hbase hfew hline hs hplain) fun s H Q q => by
    obtain ⟨B, F, r, sl, C, hr, hs, o⟩ := q
    refine ⟨B, F, r, sl, C, hr, hs, Out.bind (P := Rep X.K) o fun x C1 F1 r1 H1 v e1 e2 hr1 hx o1 => ?_⟩
    simp only at o1
    split at o1
    · rename_i hk
      refine ⟨hc B F1 r1 H1 C1 x v hr1 hx hk, B, F1, r1, sl, C1, hr1, hs.mono e1 e2, Out.bind (P := Reps X.K) o1 fun y C2 F2 r2 H2 u e3 e4 hr2 hy o2 => ?_⟩
      exact hg B F2 r2 H2 C2 x v y u Q hr2 (hx.mono e3 e4) hy o2
    · exact False.elim o1⟩
def mMt0 (chk : Store → D → Bool) (g : D → List D → Store → RE) (mo : ME) : ME := fun sl C => (mo sl C).bind fun p => if chk p.2 p.1 = true then g p.1 [] p.2 else .no
/-- a list's cell gets other items -/
theorem setc_ok {x : D} {v : V} {i : Nat} {ds ds' : List D} {vs' : List V} {a : Addr} {d : D} {w : V} (hr : Rel K B F r H C) (e2 : r[i]? = some a) (hn : F a = none) (hd : Reps K F r ds' vs') (hw : Rep K F r d w)
    (o : Out (Rep K) K mg E B F r (.ok (d, C.set i (.lst ds'))) Q) : Q w (upd H a (.lst vs')) :=
  o F r _ w (.refl _) (.refl _) (hr.write e2 hn ⟨hn, vs', upd_same, hd⟩) hw
def gAppend (x : D) (ds : List D) (C : Store) : RE := match cellOf C x, ds with
  | some (i, xs), [y] => if xs.length < sizeLine then .ok (.non, C.set i (.lst (xs ++ [y]))) else .no
  | _, _ => .no
theorem appendN : MtN K mg E rAppend gAppend := by
  intro B F r H C x v ds vs Q hr hx hd o
  unfold gAppend at o
  split at o
  · rename_i i xs y e
    obtain ⟨a, zs, rfl, h1, h2, h3, h4⟩ := cellOf_ok hr hx e
    obtain ⟨u, w, rfl, h5, h6⟩ := hd
    cases (show w = [] from h6)
    split at o
    · rename_i hl
      exact ⟨a, zs, u, rfl, rfl, h3, by rw [← h4.length]; exact hl, setc_ok (x := x) (v := .non) (ds := xs) (d := .non) hr h1 h2 (h4.append (.one h5)) rfl o⟩
    · exact False.elim o
  · exact False.elim o
end
end Nv

namespace Nv
open PySem PySem.Spec PyProof.Rows L2

/-! statements -/
inductive Fl where
  | nx
  | rt (d : D)
  | bk
  | ct
abbrev RS := R ((Fl × Sl) × Store)
abbrev MS := Sl → Store → RS
def EndOk (K : PySem.W.Frag) (De : Ends) (F : Hp) (r : List Addr) (H : Hp) (sl : Sl) : Fl → Prop
  | .nx => ∀ s, Sls K F r sl s → De.nx s H
  | .bk => ∀ s, Sls K F r sl s → De.bk s H
  | .ct => ∀ s, Sls K F r sl s → De.ct s H
  | .rt d => ∀ v, Rep K F r d v → De.rt v H
def OutS (K : PySem.W.Frag) (mg : Str → Option Value) (E : XK) (B F : Hp) (r : List Addr) (o : RS) (De : Ends) : Prop :=
  match o with
  | .ok (p, C) => ∀ (F' : Hp) (r' : List Addr) (H' : Hp), Same F F' → Ex r r' → Rel K B F' r' H' C → EndOk K De F' r' H' p.2 p.1
  | .ex x C => XOk K mg E B F r x C
  | .no => False
def LS (K : PySem.W.Frag) (mg : Str → Option Value) (E : XK) (m : MS) : TS := fun De s H =>
  ∃ B F r sl C, Rel K B F r H C ∧ Sls K F r sl s ∧ OutS K mg E B F r (m sl C) De
structure NS (X : Cx) (E : XK) (st : Stmt) (m : MS) : Prop where
  ps : PS X st (LS X.K X.mg E m)
structure NSs (X : Cx) (E : XK) (st : List Stmt) (m : MS) : Prop where
  ps : PSs X st (LS X.K X.mg E m)
theorem ps_imp {X : Cx} {st : Stmt} {t t' : TS} (h : PS X st t) (hi : ∀ De s H, t' De s H → t De s H) : PS X st t' := ⟨fun pins s σ H De I q => h.run pins s σ H De I (hi _ _ _ q)⟩
theorem pss_imp {X : Cx} {st : List Stmt} {t t' : TS} (h : PSs X st t) (hi : ∀ De s H, t' De s H → t De s H) : PSs X st t' := ⟨fun pins s σ H De I q => h.run pins s σ H De I (hi _ _ _ q)⟩
section
variable {K : PySem.W.Frag} {mg : Str → Option Value} {E : XK} {B F F1 : Hp} {r r1 : List Addr} {H : Hp} {C : Store} {De : Ends} {s : L2.St} {sl : Sl}
theorem OutS.mono {o : RS} (h : OutS K mg E B F r o De) (hF : Same F F1) (hr : Ex r r1) : OutS K mg E B F1 r1 o De := by
  cases o with
  | ok p => exact fun F' r' H' h1 h2 h3 => h F' r' H' (hF.trans h1) (hr.trans h2) h3
  | ex x C => exact XOk.mono h hF hr
  | no => exact h
/-- an expression first -/
theorem OutS.bind {S T : Type} {P : PR S T} {o : R (S × Store)} {k : S × Store → RS} {Q : T → Hp → Prop} (h : OutS K mg E B F r (o.bind k) De)
    (hk : ∀ (a : S) (C1 : Store) (F1 : Hp) (r1 : List Addr) (H1 : Hp) (b : T), Same F F1 → Ex r r1 → Rel K B F1 r1 H1 C1 → P F1 r1 a b → OutS K mg E B F1 r1 (k (a, C1)) De → Q b H1) : Out P K mg E B F r o Q := by
  cases o with
  | ok p =>
    obtain ⟨a, C1⟩ := p
    exact fun F' r' H' b h1 h2 h3 h4 => hk a C1 F' r' H' b h1 h2 h3 h4 (OutS.mono h h1 h2)
  | ex x C => exact h
  | no => exact h
theorem OutS.next (h : OutS K mg E B F r (.ok ((.nx, sl), C)) De) (hr : Rel K B F r H C) (hs : Sls K F r sl s) : De.nx s H := h F r H (.refl _) (.refl _) hr s hs
variable {X : Cx} {st : Stmt} {rest : List Stmt} {e a b c : Expr} {m ma mb : ME} {mt : MG Bool} {u u1 u2 : MS} {pos p1 p2 : Pos}
def sNil : MS := fun sl C => .ok ((.nx, sl), C)
def sSeq (u1 u2 : MS) : MS := fun sl C => (u1 sl C).bind fun p => match p.1.1 with
  | .nx => u2 p.1.2 p.2
  | _ => .ok p
theorem nss_nil : NSs X E [] sNil := ⟨pss_imp pss_nil fun De s H q => by
    obtain ⟨B, F, r, sl, C, hr, hs, o⟩ := q
    exact OutS.next o hr hs⟩
theorem nss_cons (h1 : NS X E st u1) (h2 : NSs X E rest u2) : NSs X E (st :: rest) (sSeq u1 u2) := ⟨pss_imp (pss_cons h1.ps h2.ps) fun De s H q => by
    obtain ⟨B, F, r, sl, C, hr, hs, o⟩ := q
    refine ⟨B, F, r, sl, C, hr, hs, ?_⟩
    unfold sSeq at o
    cases hu : u1 sl C with
    | ok p =>
      obtain ⟨⟨f, sl1⟩, C1⟩ := p
      rw [hu, R.bind_ok] at o
      intro F' r' H' k1 k2 k3
      cases f with
      | nx => exact fun s' hs' => ⟨B, F', r', sl1, C1, k3, hs', OutS.mono o k1 k2⟩
      | rt d => exact fun v hv => o F' r' H' k1 k2 k3 v hv
      | bk => exact fun s' hs' => o F' r' H' k1 k2 k3 s' hs'
      | ct => exact fun s' hs' => o F' r' H' k1 k2 k3 s' hs'
    | ex x Cx => rw [hu] at o; exact o
    | no => rw [hu] at o; exact o⟩
theorem nss_one (h1 : NS X E st u1) : NSs X E [st] u1 := ⟨pss_one h1.ps⟩
def sBk : MS := fun sl C => .ok ((.bk, sl), C)
def sCt : MS := fun sl C => .ok ((.ct, sl), C)
def sDrop (m : ME) : MS := fun sl C => (m sl C).bind fun p => .ok ((.nx, sl), p.2)
theorem ns_expr (he : NE X E e m) (hs : swapsWith e none pos.line X.env = pure false := by rfl) : NS X E (.Expr e pos) (sDrop m) := ⟨ps_imp (ps_expr he.pe hs) fun De s H q => by
    obtain ⟨B, F, r, sl, C, hr, hs, o⟩ := q
    refine ⟨B, F, r, sl, C, hr, hs, OutS.bind (P := Rep X.K) o fun x C1 F1 r1 H1 v e1 e2 hr1 hx o1 => ?_⟩
    exact OutS.next o1 hr1 (hs.mono e1 e2)⟩
def sRet (m : ME) : MS := fun sl C => (m sl C).bind fun p => .ok ((.rt p.1, sl), p.2)
theorem ns_ret (he : NE X E e m) : NS X E (.Return (some e) pos) (sRet m) := ⟨ps_imp (ps_ret he.pe) fun De s H q => by
    obtain ⟨B, F, r, sl, C, hr, hs, o⟩ := q
    refine ⟨B, F, r, sl, C, hr, hs, OutS.bind (P := Rep X.K) o fun x C1 F1 r1 H1 v e1 e2 hr1 hx o1 => ?_⟩
    exact o1 F1 r1 H1 (.refl _) (.refl _) hr1 v hx⟩
def sRetN : MS := fun sl C => .ok ((.rt .non, sl), C)
def sIf (t : MG Bool) (u1 u2 : MS) : MS := fun sl C => (t sl C).bind fun p => if p.1 = true then u1 sl p.2 else u2 sl p.2
theorem ns_if {xs ys : List Stmt} (hc : NT X E c mt) (ha : NSs X E xs u1) (hb : NSs X E ys u2) : NS X E (.If c xs ys pos) (sIf mt u1 u2) := ⟨ps_imp (ps_if hc.pt ha.ps hb.ps) fun De s H q => by
    obtain ⟨B, F, r, sl, C, hr, hs, o⟩ := q
    refine ⟨B, F, r, sl, C, hr, hs, OutS.bind (P := PB) o fun x C1 F1 r1 H1 v e1 e2 hr1 hx o1 => ?_⟩
    subst hx
    cases x with
    | true =>
      rw [if_pos rfl] at o1 ⊢
      exact ⟨B, F1, r1, sl, C1, hr1, hs.mono e1 e2, o1⟩
    | false =>
      rw [if_neg Bool.false_ne_true] at o1 ⊢
      exact ⟨B, F1, r1, sl, C1, hr1, hs.mono e1 e2, o1⟩⟩
/-! targets -/
abbrev MT := D → Sl → Store → R (Sl × Store)
def LT (own : List Nat) (K : PySem.W.Frag) (mg : Str → Option Value) (E : XK) (g : MT) : TG := fun v s H Q =>
  ∃ B F r sl C d, Rel K B F r H C ∧ Sls K F r sl s ∧ Rep K F r d v ∧ Out (fun F' r' sl' s' => Sls K F' r' sl' s' ∧ wipe s' own = wipe s own) K mg E B F r (g d sl C) Q
def LTs (own : List Nat) (K : PySem.W.Frag) (mg : Str → Option Value) (E : XK) (g : List D → Sl → Store → R (Sl × Store)) : TGs := fun vs s H Q =>
  ∃ B F r sl C ds, Rel K B F r H C ∧ Sls K F r sl s ∧ Reps K F r ds vs ∧ Out (fun F' r' sl' s' => Sls K F' r' sl' s' ∧ wipe s' own = wipe s own) K mg E B F r (g ds sl C) Q
structure NG (X : Cx) (E : XK) (own : List Nat) (tg : Expr) (g : MT) : Prop where
  pg : PG X tg (LT own X.K X.mg E g)
structure NGs (X : Cx) (E : XK) (own : List Nat) (tgs : List Expr) (g : List D → Sl → Store → R (Sl × Store)) : Prop where
  pg : PGs X tgs (LTs own X.K X.mg E g)
theorem pg_imp {tg : Expr} {t t' : TG} (h : PG X tg t) (hi : ∀ v s H Q, t' v s H Q → t v s H Q) : PG X tg t' := ⟨fun pins s σ H v w Q I rv q => h.run pins s σ H v w Q I rv (hi _ _ _ _ q)⟩
theorem pgs_imp {tg : List Expr} {t t' : TGs} (h : PGs X tg t) (hi : ∀ v s H Q, t' v s H Q → t v s H Q) : PGs X tg t' := ⟨fun pins s σ H v w Q I rv q => h.run pins s σ H v w Q I rv (hi _ _ _ _ q)⟩
theorem wipe_set {σ : L2.St} {i : Nat} {v : Option V} : ∀ {own : List Nat}, i ∈ own → wipe (σ.set i v) own = wipe σ own
  | j :: own, h => by
    unfold wipe
    by_cases hj : i ∈ own
    · rw [wipe_set hj]
    · have e : i = j := (List.mem_cons.mp h).resolve_right hj
      subst e
      clear h
      have key : ∀ own : List Nat, i ∉ own → wipe (σ.set i v) own = (wipe σ own).set i v := by
        intro own
        induction own with
        | nil => intro _; rfl
        | cons k own ih =>
          intro hk
          have h1 : i ≠ k := fun z => hk (z ▸ List.mem_cons_self)
          have h2 : i ∉ own := fun z => hk (List.mem_cons_of_mem _ z)
          unfold wipe
          rw [ih h2, List.set_comm _ _ h1]
      rw [key own hj, List.set_set]
theorem Sls.set (hs : Sls K F r sl s) {d : D} {v : V} (hd : Rep K F r d v) (i : Nat) : Sls K F r (sl.set i (some d)) (s.set i (some v)) := by
  refine ⟨by simp [hs.1], fun j d' e => ?_⟩
  by_cases hj : i = j
  · subst hj
    have hi : i < sl.length := by
      have := (List.getElem?_eq_some_iff.mp e).1
      simpa using this
    rw [List.getElem?_set_self hi] at e
    cases e
    exact ⟨v, List.getElem?_set_self (by rw [hs.1]; exact hi), hd⟩
  · rw [List.getElem?_set_ne hj] at e ⊢
    exact hs.2 j d' e
def gmN (i : Nat) : MT := fun d sl C => .ok (sl.set i (some d), C)
theorem ng_name {own : List Nat} (i : Nat) {x : Str} (hi : i ∈ own) (hN : X.N.Nodup) (hx : X.N[i]? = some x) (hl : Loc X.env.scope x) (hf : X.fn x = true ∨ X.env.scope.names.lookup x = some .local := by first | exact .inl rfl | exact .inr rfl) : NG X E own (.Name x pos) (gmN i) :=
  ⟨pg_imp (pg_name hN hx hl hf) fun v s H Q q => by
    obtain ⟨B, F, r, sl, C, d, hr, hs, hd, o⟩ := q
    exact o F r H (s.set i (some v)) (.refl _) (.refl _) hr ⟨hs.set hd i, wipe_set hi⟩⟩
def gmNil : List D → Sl → Store → R (Sl × Store) := fun ds sl C => match ds with
  | [] => .ok (sl, C)
  | _ => .no
def gmCons (g : MT) (gs : List D → Sl → Store → R (Sl × Store)) : List D → Sl → Store → R (Sl × Store) := fun ds sl C => match ds with
  | d :: ds => (g d sl C).bind fun p => gs ds p.1 p.2
  | [] => .no
theorem ngs_nil {own : List Nat} : NGs X E own [] gmNil := ⟨pgs_imp pgs_nil fun v s H Q q => by
    obtain ⟨B, F, r, sl, C, ds, hr, hs, hd, o⟩ := q
    cases ds with
    | nil => exact ⟨hd, o F r H s (.refl _) (.refl _) hr ⟨hs, rfl⟩⟩
    | cons d ds => exact False.elim o⟩
theorem ngs_cons {own : List Nat} {tg : Expr} {tgs : List Expr} {g : MT} {gs : List D → Sl → Store → R (Sl × Store)} (h1 : NG X E own tg g) (h2 : NGs X E own tgs gs)
    (hs : (assignEach (tg :: tgs) X.env).map (·.2) = assign tg X.env :: (assignEach tgs X.env).map (·.2) := by rfl) : NGs X E own (tg :: tgs) (gmCons g gs) := ⟨pgs_imp (pgs_cons h1.pg h2.pg hs) fun vs s H Q q => by
    obtain ⟨B, F, r, sl, C, ds, hr, hs, hd, o⟩ := q
    cases ds with
    | nil => exact False.elim o
    | cons d ds =>
      obtain ⟨v, w, rfl, k1, k2⟩ := hd
      refine ⟨v, w, rfl, B, F, r, sl, C, d, hr, hs, k1, ?_⟩
      refine Out.bind (P := fun F' r' sl' s' => Sls X.K F' r' sl' s' ∧ wipe s' own = wipe s own) o fun sl1 C1 F1 r1 H1 s1 e1 e2 hr1 hs1 o1 => ?_
      refine ⟨B, F1, r1, sl1, C1, ds, hr1, hs1.1, k2.mono e1 e2, ?_⟩
      cases o2 : gs ds sl1 C1 with
      | ok p =>
        simp only at o1
        rw [o2] at o1
        exact fun F' r' H' s' z1 z2 z3 z4 => o1 F' r' H' s' z1 z2 z3 ⟨z4.1, z4.2.trans hs1.2⟩
      | ex x Cx => simp only at o1; rw [o2] at o1; exact o1
      | no => simp only at o1; rw [o2] at o1; exact o1⟩
/-- (a, b, ..) = a tuple -/
def gmTup (n : Nat) (gs : List D → Sl → Store → R (Sl × Store)) : MT := fun d sl C => match tupOf d with
  | some ds => if ds.length = n then gs ds sl C else .no
  | none => .no
/-- x[i] = .. of a list's cell -/
def gSet (o i d : D) (C : Store) : R (Unit × Store) := match cellOf C o, intOf i with
  | some (k, xs), some j => match ixN xs.length j with
    | some n => .ok ((), C.set k (.lst (xs.set n d)))
    | none => .no
  | _, _ => .no
def gmSub (mo mi : ME) : MT := fun d sl C => (mo sl C).bind fun p => (mi sl p.2).bind fun q => (gSet p.1 q.1 d q.2).bind fun t => .ok (sl, t.2)
theorem ng_sub {own : List Nat} {o i : Expr} {mo mi : ME} (ho : NE X E o mo) (hi : NE X E i mi)
    (ha : ∀ v, assign (.Subscript o i pos) X.env v = (do
      let ov ← holding [v] (eval o X.env)
      let iv ← holding [v, ov] (eval i X.env)
      standAt pos
      holding [v, ov, iv] (setItem ov iv v)
      release [v, ov, iv] []) := by intro _; rfl) : NG X E own (.Subscript o i pos) (gmSub mo mi) := ⟨pg_imp (pg_sub ho.pe hi.pe set_list ha) fun v s H Q q => by
    obtain ⟨B, F, r, sl, C, d, hr, hs, hd, o⟩ := q
    refine ⟨B, F, r, sl, C, hr, hs, Out.bind (P := Rep X.K) o fun x C1 F1 r1 H1 w e1 e2 hr1 hx o1 => ?_⟩
    refine ⟨B, F1, r1, sl, C1, hr1, hs.mono e1 e2, Out.bind (P := Rep X.K) o1 fun y C2 F2 r2 H2 z e3 e4 hr2 hy o2 => ?_⟩
    have hx2 := hx.mono e3 e4
    have hd2 := (hd.mono e1 e2).mono e3 e4
    have hs2 := (hs.mono e1 e2).mono e3 e4
    simp only [gSet] at o2
    split at o2
    · rename_i k xs j ek ej
      obtain ⟨a, vs, rfl, h1, h2, h3, h4⟩ := cellOf_ok hr2 hx2 ek
      split at o2
      · rename_i n en
        refine ⟨a, vs, j, n, rfl, intOf_ok hy ej, h3, by rw [← h4.length]; exact en, ?_⟩
        exact o2 F2 r2 _ s (.refl _) (.refl _) (hr2.write h1 h2 ⟨h2, _, upd_same, Reps.set hd2 n h4⟩) ⟨hs2, rfl⟩
      · exact False.elim o2
    · exact False.elim o2⟩
/-! assignments -/
def sAsg (m : ME) (g : MT) : MS := fun sl C => (m sl C).bind fun p => (g p.1 sl p.2).bind fun q => .ok ((.nx, q.1), q.2)
theorem asg_ok {own : List Nat} {g : MT} : ∀ De s H, LS X.K X.mg E (sAsg m g) De s H → tAsg (LG (Rep X.K) X.K X.mg E m) (LT own X.K X.mg E g) De s H := fun De s H q => by
    obtain ⟨B, F, r, sl, C, hr, hs, o⟩ := q
    refine ⟨B, F, r, sl, C, hr, hs, OutS.bind (P := Rep X.K) o fun x C1 F1 r1 H1 v e1 e2 hr1 hx o1 => ?_⟩
    refine ⟨B, F1, r1, sl, C1, x, hr1, hs.mono e1 e2, hx, OutS.bind (P := fun F' r' sl' s' => Sls X.K F' r' sl' s' ∧ wipe s' own = wipe s own) o1 fun sl2 C2 F2 r2 H2 s2 e3 e4 hr2 hs2 o2 => ?_⟩
    exact OutS.next o2 hr2 hs2.1
theorem ns_asg {own : List Nat} {tg : Expr} {g : MT} (he : NE X E e m) (hg : NG X E own tg g) (hs : swapsWithSole [tg] e pos.line X.env = pure false := by rfl) (hw : swappedStores [tg] e X.env = pure none := by rfl)
    (h1 : (assignEach [tg] X.env).map (·.2) = [assign tg X.env] := by rfl) : NS X E (.Assign [tg] e pos) (sAsg m g) := ⟨ps_imp (ps_asg he.pe hg.pg hs hw h1) asg_ok⟩
theorem ns_set (i : Nat) {x : Str} (hN : X.N.Nodup) (hx : X.N[i]? = some x) (hl : Loc X.env.scope x) (he : NE X E e m) (hs : swapsWith e (some (.Name x p1)) pos.line X.env = pure false := by rfl)
    (hf : X.fn x = true ∨ X.env.scope.names.lookup x = some .local := by first | exact .inl rfl | exact .inr rfl) : NS X E (.Assign [.Name x p1] e pos) (sAsg m (gmN i)) :=
  ⟨ps_imp (ps_set hN hx hl he.pe hs hf) fun De s H q => by
    obtain ⟨B, F, r, sl, C, hr, hs, o⟩ := q
    refine ⟨B, F, r, sl, C, hr, hs, OutS.bind (P := Rep X.K) o fun x C1 F1 r1 H1 v e1 e2 hr1 hx o1 => ?_⟩
    exact OutS.next o1 hr1 ((hs.mono e1 e2).set hx i)⟩
def sPar (i j : Nat) (mas : MG (List D)) : MS := fun sl C => (mas sl C).bind fun p => match p.1 with
  | [x, y] => .ok ((.nx, (sl.set i (some x)).set j (some y)), p.2)
  | _ => .no
theorem ns_par (i j : Nat) {x y : Str} {px py pt pt2 : Pos} {kt k2 : Nat} {mas : MG (List D)} (hc : X.calm = true) (hN : X.N.Nodup) (hi : X.N[i]? = some x) (hj : X.N[j]? = some y) (hij : i ≠ j) (hx : X.env.scope.names.lookup x = some .local)
    (hy : X.env.scope.names.lookup y = some .local) (ha : NA X E [a, b] mas) (hw : swappedStores [.Tuple [.Name x px, .Name y py] kt pt] (.Tuple [a, b] k2 pt2) X.env = pure (some [x, y]))
    (hs : swapsWithSole [.Tuple [.Name x px, .Name y py] kt pt] (.Tuple [a, b] k2 pt2) pos.line X.env = pure false := by rfl) : NS X E (.Assign [.Tuple [.Name x px, .Name y py] kt pt] (.Tuple [a, b] k2 pt2) pos) (sPar i j mas) :=
  ⟨ps_imp (ps_par hc hN hi hj hij hx hy ha.pa hw hs) fun De s H q => by
    obtain ⟨B, F, r, sl, C, hr, hs, o⟩ := q
    refine ⟨B, F, r, sl, C, hr, hs, OutS.bind (P := Reps X.K) o fun ds C1 F1 r1 H1 vs e1 e2 hr1 hx o1 => ?_⟩
    simp only at o1
    split at o1
    · rename_i d1 d2
      obtain ⟨v, w, rfl, h1, v2, w2, rfl, h2, h3⟩ := hx
      cases (show w2 = [] from h3)
      exact ⟨v, v2, rfl, OutS.next o1 hr1 (((hs.mono e1 e2).set h1 i).set h2 j)⟩
    · exact False.elim o1⟩
/-- name op= e -/
def sAug (i : Nat) (g : D → D → Store → RE) (m : ME) : MS := fun sl C => match sl[i]? with
  | some (some x) => (m sl C).bind fun p => (g x p.1 p.2).bind fun q => .ok ((.nx, sl.set i (some q.1)), q.2)
  | _ => .no
end
end Nv

namespace Nv
open PySem PySem.Spec PyProof.Rows L2

/-! what is walked -/
abbrev Gd := List (Nat × List D)
/-- the things walked; live cells that must stay as they are -/
abbrev Wk := List D × Gd
def okG (g : Gd) (C : Store) : Prop := ∀ p ∈ g, C[p.1]? = some (Cell.lst p.2)
theorem okG_nil (C : Store) : okG [] C := fun p h => nomatch h
structure WalkN (K : PySem.W.Frag) (B : Hp) (J : It) (F : Hp) (r : List Addr) (k : Wk) : Prop where
  goes : ∀ (i : Nat) (F1 : Hp) (r1 : List Addr) (H : Hp) (C : Store), i < k.1.length → Same F F1 → Ex r r1 → Rel K B F1 r1 H C → okG k.2 C → J.go i H
  stops : ∀ (F1 : Hp) (r1 : List Addr) (H : Hp) (C : Store), Same F F1 → Ex r r1 → Rel K B F1 r1 H C → okG k.2 C → J.stop k.1.length H
  yields : ∀ (i : Nat) (d : D) (F1 : Hp) (r1 : List Addr) (H : Hp) (C : Store) (x : V) (H' : Hp), k.1[i]? = some d → Same F F1 → Ex r r1 → Rel K B F1 r1 H C → okG k.2 C → J.yld i H x H' →
    ∃ F2, Same F1 F2 ∧ Rel K B F2 r1 H' C ∧ Rep K F2 r1 d x
abbrev MI := Sl → Store → R (Wk × Store)
def LI (K : PySem.W.Frag) (mg : Str → Option Value) (E : XK) (m : MI) : TI := fun s H Q =>
  ∃ B F r sl C, Rel K B F r H C ∧ Sls K F r sl s ∧ Out (fun F' r' k J => ∀ B', WalkN K B' J F' r' k) K mg E B F r (m sl C) Q
structure NI (X : Cx) (E : XK) (tg it : Expr) (m : MI) : Prop where
  pi : PI X tg it (LI X.K X.mg E m)
theorem pi_imp {X : Cx} {tg it : Expr} {t t' : TI} (h : PI X tg it t) (hi : ∀ s H Q, t' s H Q → t s H Q) : PI X tg it t' := ⟨fun pins s σ H Q I q => h.run pins s σ H Q I (hi _ _ _ q)⟩
def StayL (K : PySem.W.Frag) (F : Hp) (r : List Addr) (a : Addr) (ds : List D) (g : Gd) : Prop :=
  ∀ (B F1 : Hp) (r1 : List Addr) (H : Hp) (C : Store), Same F F1 → Ex r r1 → Rel K B F1 r1 H C → okG g C → ∃ ws, SqL K H a ws ∧ Reps K F1 r1 ds ws
def StayT (K : PySem.W.Frag) (F : Hp) (r : List Addr) (a : Addr) (ds : List D) : Prop :=
  ∀ (B F1 : Hp) (r1 : List Addr) (H : Hp) (C : Store), Same F F1 → Ex r r1 → Rel K B F1 r1 H C → ∃ ws, SqT K H a ws ∧ Reps K F1 r1 ds ws
def pairs (xs ys : List D) : List D := List.zipWith (fun x y => D.tup [x, y]) xs ys
def enumD (k : Nat) : List D → List D
  | [] => []
  | x :: xs => .tup [.int k, x] :: enumD (k + 1) xs
theorem enumD_length : ∀ (xs : List D) (k : Nat), (enumD k xs).length = xs.length
  | [], _ => rfl
  | x :: xs, k => by simp [enumD, enumD_length xs (k + 1)]
theorem enumD_get : ∀ (xs : List D) (k i : Nat), (enumD k xs)[i]? = (xs[i]?).map fun x => D.tup [.int ((k + i : Nat) : Int), x]
  | [], _, _ => by simp [enumD]
  | x :: xs, k, 0 => by simp [enumD]
  | x :: xs, k, i + 1 => by
    simp only [enumD, List.getElem?_cons_succ, enumD_get xs (k + 1) i]
    rw [show k + 1 + i = k + (i + 1) by omega]
section
variable {K : PySem.W.Frag} {mg : Str → Option Value} {E : XK} {B F F1 : Hp} {r r1 : List Addr} {H : Hp} {C : Store} {De : Ends} {s : L2.St} {sl : Sl}
variable {X : Cx} {st : Stmt} {rest : List Stmt} {e a b c tg it : Expr} {m ma mb : ME} {mt : MG Bool} {u u1 u2 : MS} {pos p1 p2 tpos : Pos} {mas : MG (List D)} {elts : List Expr} {kk : Nat}
theorem walk_l {a : Addr} {ds : List D} {g : Gd} (h : StayL K F r a ds g) : WalkN K B (Itl K a) F r (ds, g) where
  goes := fun i F1 r1 H C hi e1 e2 hr hg => by
    obtain ⟨ws, h1, h2⟩ := h B F1 r1 H C e1 e2 hr hg
    have hi : i < ws.length := by rw [← h2.length]; exact hi
    exact ⟨ws, ws[i], h1, List.getElem?_eq_getElem hi⟩
  stops := fun F1 r1 H C e1 e2 hr hg => by
    obtain ⟨ws, h1, h2⟩ := h B F1 r1 H C e1 e2 hr hg
    exact ⟨ws, h1, Nat.le_of_eq h2.length.symm⟩
  yields := fun i d F1 r1 H C x H' ed e1 e2 hr hg y => by
    obtain ⟨ws, h1, h2⟩ := h B F1 r1 H C e1 e2 hr hg
    obtain ⟨rfl, y⟩ := y
    obtain ⟨v, h3, h4⟩ := h2.get ed
    have ex := y ws h1
    rw [h3] at ex
    cases ex
    exact ⟨F1, .refl _, hr, h4⟩
theorem walk_t {a : Addr} {ds : List D} (h : StayT K F r a ds) : WalkN K B (Itt K a) F r (ds, []) where
  goes := fun i F1 r1 H C hi e1 e2 hr hg => by
    obtain ⟨ws, h1, h2⟩ := h B F1 r1 H C e1 e2 hr
    have hi : i < ws.length := by rw [← h2.length]; exact hi
    exact ⟨ws, ws[i], h1, List.getElem?_eq_getElem hi⟩
  stops := fun F1 r1 H C e1 e2 hr hg => by
    obtain ⟨ws, h1, h2⟩ := h B F1 r1 H C e1 e2 hr
    exact ⟨ws, h1, Nat.le_of_eq h2.length.symm⟩
  yields := fun i d F1 r1 H C x H' ed e1 e2 hr hg y => by
    obtain ⟨ws, h1, h2⟩ := h B F1 r1 H C e1 e2 hr
    obtain ⟨rfl, y⟩ := y
    obtain ⟨v, h3, h4⟩ := h2.get ed
    have ex := y ws h1
    rw [h3] at ex
    cases ex
    exact ⟨F1, .refl _, hr, h4⟩
/-- a new pair -/
theorem pair_new {d1 d2 : D} {x y : V} {T : Addr} (hr : Rel K B F r H C) (h1 : Rep K F r d1 x) (h2 : Rep K F r d2 y) (hT : H T = none) :
    ∃ F2, Same F F2 ∧ Rel K B F2 r (upd H T (.tup [x, y])) C ∧ Rep K F2 r (.tup [d1, d2]) (.ref T) := by
  have hF := same_new (o := HO.tup [x, y]) (hr.freeF hT)
  exact ⟨upd F T (.tup [x, y]), hF, hr.freeze hT, T, [x, y], rfl, .inl (.inl upd_same), .cons (h1.mono hF (.refl _)) (.one (h2.mono hF (.refl _)))⟩
theorem walk_e {a : Addr} {ds : List D} {g : Gd} (h : StayL K F r a ds g) : WalkN K B (Ite K a) F r (enumD 0 ds, g) where
  goes := fun i F1 r1 H C hi e1 e2 hr hg => by
    obtain ⟨ws, h1, h2⟩ := h B F1 r1 H C e1 e2 hr hg
    have hi : i < (enumD 0 ds).length := hi
    have hi : i < ws.length := by rw [← h2.length, ← enumD_length ds 0]; exact hi
    exact ⟨ws, ws[i], h1, List.getElem?_eq_getElem hi⟩
  stops := fun F1 r1 H C e1 e2 hr hg => by
    obtain ⟨ws, h1, h2⟩ := h B F1 r1 H C e1 e2 hr hg
    exact ⟨ws, h1, by show ws.length ≤ (enumD 0 ds).length; rw [enumD_length, h2.length]; exact Nat.le_refl _⟩
  yields := fun i d F1 r1 H C x H' ed e1 e2 hr hg y => by
    obtain ⟨ws, h1, h2⟩ := h B F1 r1 H C e1 e2 hr hg
    have ed : (enumD 0 ds)[i]? = some d := ed
    rw [enumD_get] at ed
    obtain ⟨dz, ed', rfl⟩ := map_some ed
    obtain ⟨T, z, rfl, hT, rfl, y⟩ := y
    obtain ⟨v, h3, h4⟩ := h2.get ed'
    have ex := y ws h1
    rw [h3] at ex
    cases ex
    rw [Nat.zero_add]
    exact pair_new hr (d1 := .int (i : Nat)) rfl h4 hT
theorem walk_r {lo : Int} {n : Nat} : WalkN K B (Itr lo n) F r ((List.range n).map fun i => D.int (lo + (i : Nat)), []) where
  goes := fun i F1 r1 H C hi e1 e2 hr hg => by
    have hi : i < ((List.range n).map fun i => D.int (lo + (i : Nat))).length := hi
    rw [List.length_map, List.length_range] at hi
    exact hi
  stops := fun F1 r1 H C e1 e2 hr hg => by
    show n ≤ ((List.range n).map fun i => D.int (lo + (i : Nat))).length
    simp
  yields := fun i d F1 r1 H C x H' ed e1 e2 hr hg y => by
    obtain ⟨rfl, rfl⟩ := y
    have ed : ((List.range n).map fun i => D.int (lo + (i : Nat)))[i]? = some d := ed
    rw [List.getElem?_map] at ed
    obtain ⟨j, ej, rfl⟩ := map_some ed
    have : j = i := by
      obtain ⟨h1, h2⟩ := List.getElem?_eq_some_iff.mp ej
      rw [List.getElem_range] at h2
      exact h2.symm
    subst this
    exact ⟨F1, .refl _, hr, rfl⟩
/-! the walked expressions -/
/-- a list's things; which cell they lie in -/
def lstG (C : Store) : D → Option Wk
  | .lst ds => some (ds, [])
  | .cell k => match C[k]? with
    | some (.lst ds) => some (ds, [(k, ds)])
    | some (.fz ds) => some (ds, [])
    | _ => none
  | _ => none
theorem lstG_ok {x : D} {v : V} {k : Wk} (hr : Rel K B F r H C) (hx : Rep K F r x v) (e : lstG C x = some k) : ∃ a vs, v = .ref a ∧ SqL K H a vs ∧ StayL K F r a k.1 k.2 := by
  cases x with
  | lst ds =>
    cases e
    obtain ⟨a, vs, rfl, h2, h3⟩ := hx
    exact ⟨a, vs, rfl, Same.seq hr.froz h2, fun B F1 r1 H C e1 e2 hr1 _ => ⟨vs, Same.seq hr1.froz (Same.seq e1 h2), h3.mono e1 e2⟩⟩
  | cell i =>
    obtain ⟨a, rfl, h1⟩ := hx
    have e : (match C[i]? with
    | some (.lst ds) => some (ds, [(i, ds)])
    | some (.fz ds) => some (ds, [])
    | _ => none) = some k := e
    split at e
    · rename_i ds hc
      cases e
      obtain ⟨h2, vs, h3, h4⟩ := hr.cells i _ a hc h1
      refine ⟨a, vs, rfl, .inl (.inl h3), fun B1 F1 r1 H1 C1 k1 k2 hr1 hg => ?_⟩
      have hg : C1[i]? = some (.lst ds) := hg (i, ds) List.mem_cons_self
      obtain ⟨_, ws, h5, h6⟩ := hr1.cells i _ a hg (k2 _ _ h1)
      exact ⟨ws, .inl (.inl h5), h6⟩
    · rename_i ds hc
      cases e
      obtain ⟨vs, h3, h4⟩ := hr.cells i _ a hc h1
      exact ⟨a, vs, rfl, .inl (.inl (hr.froz _ _ h3)), fun B1 F1 r1 H1 C1 k1 k2 hr1 hg => ⟨vs, .inl (.inl (hr1.froz _ _ (k1 _ _ h3))), h4.mono k1 k2⟩⟩
    · cases e
  | _ => cases e
theorem tupOf_stay {x : D} {v : V} {ds : List D} (hr : Rel K B F r H C) (hx : Rep K F r x v) (e : tupOf x = some ds) : ∃ a vs, v = .ref a ∧ SqT K H a vs ∧ StayT K F r a ds := by
  cases x with
  | tup ds' =>
    cases e
    obtain ⟨a, vs, rfl, h2, h3⟩ := hx
    exact ⟨a, vs, rfl, Same.tup hr.froz h2, fun B F1 r1 H C e1 e2 hr1 => ⟨vs, Same.tup hr1.froz (Same.tup e1 h2), h3.mono e1 e2⟩⟩
  | _ => cases e
def iLst (m : ME) : MI := fun sl C => (m sl C).bind fun p => match lstG p.2 p.1 with
  | some k => .ok (k, p.2)
  | none => .no
theorem ni_list (he : NE X E e m) : NI X E tg e (iLst m) := ⟨pi_imp (pi_list he.pe) fun s H Q q => by
    obtain ⟨B, F, r, sl, C, hr, hs, o⟩ := q
    refine ⟨B, F, r, sl, C, hr, hs, Out.bind (P := Rep X.K) o fun x C1 F1 r1 H1 v e1 e2 hr1 hx o1 => ?_⟩
    simp only at o1
    split at o1
    · rename_i k ek
      obtain ⟨a, vs, rfl, h1, h2⟩ := lstG_ok hr1 hx ek
      exact ⟨a, rfl, ⟨vs, h1⟩, o1 F1 r1 H1 _ (.refl _) (.refl _) hr1 fun B' => walk_l h2⟩
    · exact False.elim o1⟩
def iTp (m : ME) : MI := fun sl C => (m sl C).bind fun p => match tupOf p.1 with
  | some ds => .ok ((ds, []), p.2)
  | none => .no
theorem ni_tup (he : NE X E e m) : NI X E tg e (iTp m) := ⟨pi_imp (pi_tup he.pe) fun s H Q q => by
    obtain ⟨B, F, r, sl, C, hr, hs, o⟩ := q
    refine ⟨B, F, r, sl, C, hr, hs, Out.bind (P := Rep X.K) o fun x C1 F1 r1 H1 v e1 e2 hr1 hx o1 => ?_⟩
    simp only at o1
    split at o1
    · rename_i ds ek
      obtain ⟨a, vs, rfl, h1, h2⟩ := tupOf_stay hr1 hx ek
      exact ⟨a, rfl, ⟨vs, h1⟩, o1 F1 r1 H1 _ (.refl _) (.refl _) hr1 fun B' => walk_t h2⟩
    · exact False.elim o1⟩
def rgD (a b : Int) : List D := (List.range (b - a).toNat).map fun i => D.int (a + (i : Nat))
def iRg1 (mas : MG (List D)) : MI := fun sl C => (mas sl C).bind fun p => match p.1 with
  | [.int j] => if lowI j = true then .ok ((rgD 0 j, []), p.2) else .no
  | _ => .no
theorem ni_range1 (hm : X.mg "range" = none) (ha : NA X E [a] mas) (hg : Gl X "range" := by rfl) (hs : starEach [a] X.env = [(false, eval a X.env)] := by rfl) : NI X E tg (.Call (.Name "range" p1) [a] [] pos) (iRg1 mas) :=
  ⟨pi_imp (pi_range1 hg hm ha.pa hs) fun s H Q q => by
    obtain ⟨B, F, r, sl, C, hr, hs, o⟩ := q
    refine ⟨B, F, r, sl, C, hr, hs, Out.bind (P := Reps X.K) o fun x C1 F1 r1 H1 v e1 e2 hr1 hx o1 => ?_⟩
    simp only at o1
    split at o1
    · rename_i j
      obtain ⟨v, w, rfl, h1, h2⟩ := hx
      cases (show w = [] from h2)
      split at o1
      · rename_i hl
        have hl := lowI_ok hl
        refine ⟨j, by rw [show v = V.int j from h1], by omega, by omega, ?_⟩
        refine o1 F1 r1 H1 _ (.refl _) (.refl _) hr1 fun B' => ?_
        unfold rgD
        rw [Int.sub_zero]
        exact walk_r
      · exact False.elim o1
    · exact False.elim o1⟩
def iRg2 (mas : MG (List D)) : MI := fun sl C => (mas sl C).bind fun p => match p.1 with
  | [.int i, .int j] => if (lowI i && lowI j) = true then .ok ((rgD i j, []), p.2) else .no
  | _ => .no
theorem ni_range2 (hm : X.mg "range" = none) (ha : NA X E [a, b] mas) (hg : Gl X "range" := by rfl) (hs : starEach [a, b] X.env = [(false, eval a X.env), (false, eval b X.env)] := by rfl) (hs2 : starEach [b] X.env = [(false, eval b X.env)] := by rfl) :
    NI X E tg (.Call (.Name "range" p1) [a, b] [] pos) (iRg2 mas) :=
  ⟨pi_imp (pi_range2 hg hm ha.pa hs hs2) fun s H Q q => by
    obtain ⟨B, F, r, sl, C, hr, hs, o⟩ := q
    refine ⟨B, F, r, sl, C, hr, hs, Out.bind (P := Reps X.K) o fun x C1 F1 r1 H1 v e1 e2 hr1 hx o1 => ?_⟩
    simp only at o1
    split at o1
    · rename_i i j
      obtain ⟨v, w, rfl, h1, v2, w2, rfl, h2, h3⟩ := hx
      cases (show w2 = [] from h3)
      split at o1
      · rename_i hl
        rw [Bool.and_eq_true] at hl
        have hl1 := lowI_ok hl.1
        have hl2 := lowI_ok hl.2
        refine ⟨i, j, by rw [show v = V.int i from h1, show v2 = V.int j from h2], by omega, ?_⟩
        exact o1 F1 r1 H1 _ (.refl _) (.refl _) hr1 fun B' => walk_r
      · exact False.elim o1
    · exact False.elim o1⟩
/-- down by ones: range(a, b, -1) -/
def rgDown (a b : Int) : List D := (List.range (a - b).toNat).map fun i => D.int (a + (i : Nat) * (-1))
def iRg3 (mas : MG (List D)) : MI := fun sl C => (mas sl C).bind fun p => match p.1 with
  | [.int i, .int j, .int k] => if (lowI i && lowI j) = true ∧ k = -1 then .ok ((rgDown i j, []), p.2) else .no
  | _ => .no
def iEn (mas : MG (List D)) : MI := fun sl C => (mas sl C).bind fun p => match p.1 with
  | [x] => match lstG p.2 x with
    | some k => .ok ((enumD 0 k.1, k.2), p.2)
    | none => .no
  | _ => .no
theorem ni_enum (hm : X.mg "enumerate" = none) (ha : NA X E [a] mas) (hg : Gl X "enumerate" := by rfl) (hs : starEach [a] X.env = [(false, eval a X.env)] := by rfl) : NI X E (.Tuple elts kk tpos) (.Call (.Name "enumerate" p1) [a] [] pos) (iEn mas) :=
  ⟨pi_imp (pi_enum hg hm ha.pa hs) fun s H Q q => by
    obtain ⟨B, F, r, sl, C, hr, hs, o⟩ := q
    refine ⟨B, F, r, sl, C, hr, hs, Out.bind (P := Reps X.K) o fun x C1 F1 r1 H1 v e1 e2 hr1 hx o1 => ?_⟩
    simp only at o1
    split at o1
    · rename_i d
      obtain ⟨v, w, rfl, h1, h2⟩ := hx
      cases (show w = [] from h2)
      split at o1
      · rename_i k ek
        obtain ⟨a, vs, rfl, h1, h2⟩ := lstG_ok hr1 h1 ek
        exact ⟨a, vs, rfl, h1, o1 F1 r1 H1 _ (.refl _) (.refl _) hr1 fun B' => walk_e h2⟩
      · exact False.elim o1
    · exact False.elim o1⟩
theorem StayL.more {a : Addr} {ds : List D} {g g' : Gd} (h : StayL K F r a ds g) (hg : ∀ p ∈ g, p ∈ g') : StayL K F r a ds g' := fun B F1 r1 H C e1 e2 hr ok => h B F1 r1 H C e1 e2 hr fun p hp => ok p (hg p hp)
def iZp (mas : MG (List D)) : MI := fun sl C => (mas sl C).bind fun p => match p.1 with
  | [x, y] => match lstG p.2 x, lstG p.2 y with
    | some k, some l => .ok ((pairs k.1 l.1, k.2 ++ l.2), p.2)
    | _, _ => match tupOf x, tupOf y with
      | some k, some l => .ok ((pairs k l, []), p.2)
      | _, _ => .no
  | _ => .no
end
end Nv

namespace Nv
open PySem PySem.Spec PyProof.Rows L2
open Classical in
/-- a for: the turns that are left -/
noncomputable def forM (g : MT) (u : MS) (gd : Gd) : List D → MS
  | [] => fun sl C => if okG gd C then .ok ((.nx, sl), C) else .no
  | d :: ds => fun sl C => if okG gd C then (g d sl C).bind fun q => (u q.1 q.2).bind fun p => match p.1.1 with
      | .nx => forM g u gd ds p.1.2 p.2
      | .ct => forM g u gd ds p.1.2 p.2
      | .bk => .ok ((.nx, p.1.2), p.2)
      | .rt d => .ok ((.rt d, p.1.2), p.2)
    else .no
noncomputable def sFor (mi : MI) (g : MT) (u : MS) : MS := fun sl C => (mi sl C).bind fun p => forM g u p.1.2 p.1.1 sl p.2
/-- what is raised is not allowed here -/
def R.calm {S : Type} : R S → R S
  | .ok a => .ok a
  | _ => .no
def wipeS (sl : Sl) : List Nat → Sl
  | [] => sl
  | v :: vs => (wipeS sl vs).set v none
open Classical in
/-- a list comprehension: the things that are left -/
noncomputable def lcM (g : MT) (t : MG Bool) (m : ME) (gd : Gd) (sl : Sl) : List D → Store → R (List D × Store)
  | [], C => if okG gd C then .ok ([], C) else .no
  | d :: ds, C => if okG gd C then (g d sl C).bind fun q => (t q.1 q.2).bind fun b => if b.1 = true then (m q.1 b.2).bind fun e => (lcM g t m gd sl ds e.2).bind fun z => .ok (e.1 :: z.1, z.2)
      else lcM g t m gd sl ds b.2
    else .no
noncomputable def mLc (c : Bool) (own : List Nat) (mi : MI) (g : MT) (t : MG Bool) (m : ME) : ME := fun sl C => (mi sl C).bind fun p => if p.1.1.length ≤ sizeLine then
  (R.calm (lcM g t m p.1.2 (wipeS sl own) p.1.1 p.2)).bind fun z => newL c z.1 z.2 else .no
def tTrue : MG Bool := fun _ C => .ok (true, C)
section
variable {K : PySem.W.Frag} {mg : Str → Option Value} {E : XK} {B F F1 : Hp} {r r1 : List Addr} {H : Hp} {C : Store} {De : Ends} {s : L2.St} {sl : Sl}
variable {X : Cx} {st : Stmt} {rest : List Stmt} {e a b c tg it : Expr} {m ma mb : ME} {mt : MG Bool} {u u1 u2 : MS} {pos p1 p2 tpos : Pos} {mas : MG (List D)} {elts : List Expr} {kk : Nat}
theorem ns_for {own : List Nat} {body : List Stmt} {mi : MI} {g : MT} (hp : PassesOwn (model X.prog X.w) X.A X.env X.xe) (hc : X.calm = true) (hi : NI X E tg it mi) (hg : NG X E own tg g) (hb : NSs X E body u)
    (hs : ∀ x, foldedSetIterable it X.env x = pure x := by intro _; rfl) : NS X E (.For tg it body [] pos) (sFor mi g u) := ⟨ps_imp (ps_for hp hc hi.pi hg.pg hb.ps hs) fun De s H q => by
    obtain ⟨B, F, r, sl, C, hr, hs, o⟩ := q
    refine ⟨B, F, r, sl, C, hr, hs, OutS.bind (P := fun F' r' k J => ∀ B', WalkN X.K B' J F' r' k) o fun k C1 F1 r1 H1 J e1 e2 hr1 hJ o1 => ?_⟩
    obtain ⟨ds, gd⟩ := k
    have hJ := hJ B
    simp only at o1
    refine ⟨fun i n s2 H2 => n = ds.length - i ∧ i ≤ ds.length ∧ ∃ F2 r2 sl2 C2, Same F1 F2 ∧ Ex r1 r2 ∧ Rel X.K B F2 r2 H2 C2 ∧ Sls X.K F2 r2 sl2 s2 ∧ OutS X.K X.mg E B F2 r2 (forM g u gd (ds.drop i) sl2 C2) De,
      ⟨ds.length, by simp, Nat.zero_le _, F1, r1, sl, C1, .refl _, .refl _, hr1, hs.mono e1 e2, o1⟩, ?_⟩
    rintro i n s2 H2 ⟨rfl, hi, F2, r2, sl2, C2, e3, e4, hr2, hs2, o2⟩
    by_cases hl : i < ds.length
    · have ed : ds[i]? = some ds[i] := List.getElem?_eq_getElem hl
      rw [List.drop_eq_getElem_cons hl] at o2
      unfold forM at o2
      split at o2
      · rename_i hok
        refine .inr ⟨hJ.goes i F2 r2 H2 C2 hl e3 e4 hr2 hok, fun s3 H3 => ∃ F2 r2 sl2 C2, Same F1 F2 ∧ Ex r1 r2 ∧ Rel X.K B F2 r2 H3 C2 ∧ Sls X.K F2 r2 sl2 s3 ∧ OutS X.K X.mg E B F2 r2 (forM g u gd (ds.drop (i + 1)) sl2 C2) De,
          fun s3 H3 h => ⟨ds.length - (i + 1), by omega, rfl, hl, h⟩, fun x H3 y => ?_⟩
        obtain ⟨F3, e5, hr3, hx⟩ := hJ.yields i _ F2 r2 H2 C2 x H3 ed e3 e4 hr2 hok y
        refine ⟨B, F3, r2, sl2, C2, ds[i], hr3, hs2.mono e5 (.refl _), hx, OutS.bind (P := fun F' r' sl' s' => Sls X.K F' r' sl' s' ∧ wipe s' own = wipe s2 own) (o2.mono e5 (.refl _)) fun sl4 C4 F4 r4 H4 s4 e6 e7 hr4 hs4 o4 => ?_⟩
        refine ⟨B, F4, r4, sl4, C4, hr4, hs4.1, ?_⟩
        simp only at o4
        cases hu : u sl4 C4 with
        | ok p =>
          obtain ⟨⟨f, sl5⟩, C5⟩ := p
          rw [hu, R.bind_ok] at o4
          intro F5 r5 H5 k1 k2 k3
          have t1 : Same F1 F5 := ((e3.trans e5).trans e6).trans k1
          have t2 : Ex r1 r5 := (e4.trans e7).trans k2
          cases f with
          | nx => exact fun s5 hs5 => ⟨F5, r5, sl5, C5, t1, t2, k3, hs5, OutS.mono o4 k1 k2⟩
          | ct => exact fun s5 hs5 => ⟨F5, r5, sl5, C5, t1, t2, k3, hs5, OutS.mono o4 k1 k2⟩
          | bk => exact fun s5 hs5 => o4 F5 r5 H5 k1 k2 k3 s5 hs5
          | rt d => exact fun v hv => o4 F5 r5 H5 k1 k2 k3 v hv
        | ex y Cy => rw [hu] at o4; exact o4
        | no => rw [hu] at o4; exact o4
      · exact False.elim o2
    · have ei : i = ds.length := by omega
      subst ei
      rw [List.drop_length] at o2
      unfold forM at o2
      split at o2
      · rename_i hok
        exact .inl ⟨hJ.stops F2 r2 H2 C2 e3 e4 hr2 hok, OutS.next o2 hr2 hs2⟩
      · exact False.elim o2⟩
/-! list comprehensions -/
abbrev EN : XK := fun _ _ _ => False
theorem Sls.wipe (hs : Sls K F r sl s) : ∀ own : List Nat, Sls K F r (wipeS sl own) (L2.wipe s own)
  | [] => hs
  | v :: vs => by
    have ih := Sls.wipe hs vs
    unfold wipeS L2.wipe
    refine ⟨by simp [ih.1], fun j d e => ?_⟩
    by_cases hj : v = j
    · subst hj
      by_cases hi : v < (wipeS sl vs).length
      · rw [List.getElem?_set_self hi] at e; cases e
      · rw [List.getElem?_eq_none (by simpa using hi)] at e; cases e
    · rw [List.getElem?_set_ne hj] at e ⊢
      exact ih.2 j d e
/-- the tests of a comprehension -/
structure NTs (X : Cx) (ifs : List Expr) (m : MG Bool) : Prop where
  pt : PTs X ifs (LG PB X.K X.mg EN m)
theorem pts_imp {X : Cx} {e : List Expr} {t t' : TT} (h : PTs X e t) (hi : ∀ s H Q, t' s H Q → t s H Q) : PTs X e t' := ⟨fun pins s σ H Q I q => h.run pins s σ H Q I (hi _ _ _ q)⟩
theorem nts_nil : NTs X [] tTrue := ⟨pts_imp pts_nil fun s H Q q => by
    obtain ⟨B, F, r, sl, C, hr, hs, o⟩ := q
    exact o F r H true (.refl _) (.refl _) hr rfl⟩
theorem nts_one (h : NT X EN c mt) : NTs X [c] mt := ⟨pts_one h.pt⟩
theorem bind_okR {S T : Type} {o : R S} {k : S → R T} {x : T} (h : o.bind k = .ok x) : ∃ a, o = .ok a ∧ k a = .ok x := by
  cases o with
  | ok a => exact ⟨a, rfl, h⟩
  | ex y C => cases h
  | no => cases h
theorem out_of {S T : Type} {P : PR S T} {o : R (S × Store)} {a : S} {C1 : Store} {Q : T → Hp → Prop} (h : o = .ok (a, C1)) (hq : ∀ (F' : Hp) (r' : List Addr) (H' : Hp) (b : T), Same F F' → Ex r r' → Rel K B F' r' H' C1 → P F' r' a b → Q b H') : Out P K mg E B F r o Q := by
  subst h
  exact hq
theorem lc_ok {cb : Bool} {own : List Nat} {mi : MI} {g : MT} {t : MG Bool} {m : ME} : ∀ s H Q, LG (Rep K) K mg E (mLc cb own mi g t m) s H Q → tLc (LI K mg E mi) (LT own K mg EN g) (LG PB K mg EN t) (LG (Rep K) K mg EN m) own s H Q := fun s H Q q => by
    obtain ⟨B, F, r, sl, C, hr, hs, o⟩ := q
    refine ⟨B, F, r, sl, C, hr, hs, Out.bind (P := fun F' r' k J => ∀ B', WalkN K B' J F' r' k) o fun k C1 F1 r1 H1 J e1 e2 hr1 hJ o1 => ?_⟩
    obtain ⟨ds, gd⟩ := k
    intro p hp
    simp only at o1
    split at o1
    case isFalse => exact False.elim o1
    rename_i hz
    obtain ⟨⟨out, Cn⟩, hlc, o1⟩ : ∃ z, lcM g t m gd (wipeS sl own) ds C1 = .ok z ∧ Out (Rep K) K mg E B F1 r1 (newL cb z.1 z.2) Q := by
      cases hl : lcM g t m gd (wipeS sl own) ds C1 with
      | ok z => rw [hl] at o1; exact ⟨z, rfl, o1⟩
      | ex y Cy => rw [hl] at o1; exact False.elim o1
      | no => rw [hl] at o1; exact False.elim o1
    have hs1 := hs.mono e1 e2
    refine ⟨fun i n H2 => n = ds.length - i ∧ i ≤ ds.length ∧ ∃ F2 r2 C2 acc vs out2, Same F1 F2 ∧ Ex r1 r2 ∧ Rel K (upd B p (.lst vs)) F2 r2 H2 C2 ∧ Reps K F2 r2 acc vs ∧ acc.length ≤ i ∧ out = acc ++ out2 ∧ lcM g t m gd (wipeS sl own) (ds.drop i) C2 = .ok (out2, Cn),
      ⟨ds.length, by simp, Nat.zero_le _, F1, r1, C1, [], [], out, .refl _, .refl _, hr1.aside hp, .nil, Nat.zero_le _, rfl, hlc⟩, ?_⟩
    rintro i n H2 ⟨rfl, hi, F2, r2, C2, acc, vs, out2, e3, e4, hr2, hacc, hal, ho, h2⟩
    have hJ := hJ (upd B p (.lst vs))
    by_cases hl : i < ds.length
    · have ed : ds[i]? = some ds[i] := List.getElem?_eq_getElem hl
      rw [List.drop_eq_getElem_cons hl] at h2
      unfold lcM at h2
      split at h2
      case isFalse => cases h2
      rename_i hok
      obtain ⟨⟨sl4, C4⟩, hg, h2⟩ := bind_okR h2
      obtain ⟨⟨bt, C5⟩, ht, h2⟩ := bind_okR h2
      refine .inr ⟨hJ.goes i F2 r2 H2 C2 hl e3 e4 hr2 hok, fun H3 => ∃ F2 r2 C2 acc vs out2, Same F1 F2 ∧ Ex r1 r2 ∧ Rel K (upd B p (.lst vs)) F2 r2 H3 C2 ∧ Reps K F2 r2 acc vs ∧ acc.length ≤ i + 1 ∧ out = acc ++ out2 ∧ lcM g t m gd (wipeS sl own) (ds.drop (i + 1)) C2 = .ok (out2, Cn),
        fun H3 h => ⟨ds.length - (i + 1), by omega, rfl, hl, h⟩, fun x H3 y => ?_⟩
      obtain ⟨F3, e5, hr3, hx⟩ := hJ.yields i _ F2 r2 H2 C2 x H3 ed e3 e4 hr2 hok y
      have hs3 : Sls K F3 r2 (wipeS sl own) (wipe s own) := Sls.wipe (hs1.mono (e3.trans e5) e4) own
      refine ⟨upd B p (.lst vs), F3, r2, wipeS sl own, C2, ds[i], hr3, hs3, hx, out_of hg fun F4 r4 H4 s4 e6 e7 hr4 hs4 => ?_⟩
      have ww : ∀ own : List Nat, wipe (wipe s own) own = wipe s own := fun own => by
        have key : ∀ (l : List Nat) (x : Nat) (z : L2.St), z[x]? = some none ∨ z.length ≤ x → (wipe z l)[x]? = some none ∨ (wipe z l).length ≤ x := by
          intro l
          induction l with
          | nil => intro x z h; exact h
          | cons v vs ih =>
            intro x z h
            unfold wipe
            by_cases hv : v = x
            · subst hv
              by_cases hv2 : v < (wipe z vs).length
              · exact .inl (List.getElem?_set_self hv2)
              · exact .inr (by simpa using hv2)
            · rw [List.getElem?_set_ne hv, List.length_set]
              exact ih x z h
        have fix : ∀ (l : List Nat) (z : L2.St), (∀ x ∈ l, z[x]? = some none ∨ z.length ≤ x) → wipe z l = z := by
          intro l
          induction l with
          | nil => intro z _; rfl
          | cons v vs ih =>
            intro z h
            unfold wipe
            rw [ih z fun x hx => h x (List.mem_cons_of_mem _ hx)]
            rcases h v List.mem_cons_self with e | e
            · apply List.ext_getElem?
              intro j
              by_cases hj : v = j
              · subst hj
                rw [List.getElem?_set_self (List.getElem?_eq_some_iff.mp e).1, e]
              · rw [List.getElem?_set_ne hj]
            · rw [List.set_eq_of_length_le e]
        have done : ∀ (l : List Nat) (z : L2.St), ∀ x ∈ l, (wipe z l)[x]? = some none ∨ (wipe z l).length ≤ x := by
          intro l
          induction l with
          | nil => intro z x hx; cases hx
          | cons v vs ih =>
            intro z x hx
            unfold wipe
            by_cases hv : v = x
            · subst hv
              by_cases hv2 : v < (wipe z vs).length
              · exact .inl (List.getElem?_set_self hv2)
              · exact .inr (by simpa using hv2)
            · rw [List.getElem?_set_ne hv, List.length_set]
              exact ih z x ((List.mem_cons.mp hx).resolve_left (Ne.symm hv))
        exact fix own _ (done own s)
      refine ⟨hs4.2.trans (ww own), upd B p (.lst vs), F4, r4, sl4, C4, hr4, hs4.1, out_of ht fun F5 r5 H5 b e8 e9 hr5 hb => ?_⟩
      subst hb
      cases bt with
      | false =>
        rw [if_neg Bool.false_ne_true] at h2 ⊢
        exact ⟨F5, r5, C5, acc, vs, out2, ((e3.trans e5).trans e6).trans e8, (e4.trans e7).trans e9, hr5, hacc.mono ((e5.trans e6).trans e8) (e7.trans e9), by omega, ho, h2⟩
      | true =>
        rw [if_pos rfl] at h2 ⊢
        obtain ⟨⟨ed, C6⟩, hm, h2⟩ := bind_okR h2
        obtain ⟨⟨out3, C7⟩, h3, h2⟩ := bind_okR h2
        cases h2
        refine ⟨upd B p (.lst vs), F5, r5, sl4, C5, hr5, hs4.1.mono e8 e9, out_of hm fun F6 r6 H6 v k1 k2 hr6 hv => ?_⟩
        have hacc6 := hacc.mono (((e5.trans e6).trans e8).trans k1) ((e7.trans e9).trans k2)
        refine ⟨vs, hr6.base p _ upd_same, ?_, F6, r6, C6, acc ++ [ed], vs ++ [v], out3, (((e3.trans e5).trans e6).trans e8).trans k1, ((e4.trans e7).trans e9).trans k2, ?_, hacc6.append (.one hv), by simp; omega, by rw [ho]; simp, h3⟩
        · rw [← hacc.length]
          omega
        · exact hr6.asideSet
    · have ei : i = ds.length := by omega
      subst ei
      rw [List.drop_length] at h2
      unfold lcM at h2
      split at h2
      case isFalse => cases h2
      rename_i hok
      cases h2
      refine .inl ⟨hJ.stops F2 r2 H2 _ e3 e4 hr2 hok, ?_⟩
      rw [List.append_nil] at ho
      subst ho
      have hB : B p = none := Same.free hr1.base hp
      unfold newL at o1
      cases cb with
      | true =>
        rw [if_pos rfl] at o1
        refine o1 F2 (r2 ++ [p]) H2 _ e3 (e4.trans (Ex.app r2 _)) (hr2.asideCell hB ⟨hr2.apart p _ upd_same, vs, hr2.base p _ upd_same, hacc.mono (.refl _) (Ex.app r2 _)⟩) ⟨p, rfl, ?_⟩
        rw [← hr2.len, List.getElem?_append_right (Nat.le_refl _)]
        simp
      | false =>
        rw [if_neg Bool.false_ne_true] at o1
        obtain ⟨k1, k2⟩ := hr2.asideFreeze hB
        exact o1 (upd F2 p (.lst vs)) r2 H2 _ (e3.trans k2) e4 k1 ⟨p, vs, rfl, .inl (.inl upd_same), hacc.mono k2 (.refl _)⟩
theorem ne_lc {cb : Bool} {elt : Expr} {ifs : List Expr} {scope : Scope} (own : List (Str × Nat)) {mi : MI} {g : MT} {t : MG Bool} {m : ME} (hc : X.calm = true) (hN : X.N.Nodup) (hi : NI X E tg it mi) (ok : BlkOk X.N X.env.scope scope own)
    (hg : ∀ (s : Shared) (H : Hp) (C : Addr) (cl : List (Str × Addr)) (fp : List Addr), NG (X.blk s H scope (compEnvC scope cl C X.env) fp) EN (own.map (·.2)) tg g)
    (ht : ∀ (s : Shared) (H : Hp) (C : Addr) (cl : List (Str × Addr)) (fp : List Addr), NTs (X.blk s H scope (compEnvC scope cl C X.env) fp) ifs t)
    (he : ∀ (s : Shared) (H : Hp) (C : Addr) (cl : List (Str × Addr)) (fp : List Addr), NE (X.blk s H scope (compEnvC scope cl C X.env) fp) EN elt m)
    (hs : ∀ x, foldedSetIterable it X.env x = pure x := by intro _; rfl) : NE X E (.ListComp elt [⟨tg, it, ifs, 0⟩] scope pos) (mLc cb (own.map (·.2)) mi g t m) :=
  ⟨pe_imp (pe_lc (own := own) hc hN hi.pi ok (fun s H C cl fp => (hg s H C cl fp).pg) (fun s H C cl fp => (ht s H C cl fp).pt) (fun s H C cl fp => (he s H C cl fp).pe) hs) lc_ok⟩
theorem ns_setLc {cb : Bool} (i : Nat) {y : Str} {py spos : Pos} {elt : Expr} {ifs : List Expr} {scope : Scope} (own : List (Str × Nat)) {mi : MI} {g : MT} {t : MG Bool} {m : ME} (hc : X.calm = true) (hN : X.N.Nodup) (hy : X.N[i]? = some y) (hyl : X.env.scope.names.lookup y = some .local)
    (hsw : swapsWith (.ListComp elt [⟨tg, it, ifs, 0⟩] scope pos) (some (.Name y py)) spos.line X.env = pure true) (hi : NI X E tg it mi) (ok : BlkOk X.N X.env.scope scope own)
    (hg : ∀ (s : Shared) (H : Hp) (C : Addr) (cl : List (Str × Addr)) (fp : List Addr), NG (X.blk s H scope (compEnvC scope cl C X.env) fp) EN (own.map (·.2)) tg g)
    (ht : ∀ (s : Shared) (H : Hp) (C : Addr) (cl : List (Str × Addr)) (fp : List Addr), NTs (X.blk s H scope (compEnvC scope cl C X.env) fp) ifs t)
    (he : ∀ (s : Shared) (H : Hp) (C : Addr) (cl : List (Str × Addr)) (fp : List Addr), NE (X.blk s H scope (compEnvC scope cl C X.env) fp) EN elt m)
    (hs : ∀ x, foldedSetIterable it X.env x = pure x := by intro _; rfl) : NS X E (.Assign [.Name y py] (.ListComp elt [⟨tg, it, ifs, 0⟩] scope pos) spos) (sAsg (mLc cb (own.map (·.2)) mi g t m) (gmN i)) :=
  ⟨ps_imp (ps_setLc (own := own) hc hN hy hyl hsw hi.pi ok (fun s H C cl fp => (hg s H C cl fp).pg) (fun s H C cl fp => (ht s H C cl fp).pt) (fun s H C cl fp => (he s H C cl fp).pe) hs) fun De s H q => by
    obtain ⟨B, F, r, sl, C, hr, hs, o⟩ := q
    refine lc_ok (cb := cb) s H _ ⟨B, F, r, sl, C, hr, hs, OutS.bind (P := Rep X.K) o fun x C1 F1 r1 H1 v e1 e2 hr1 hx o1 => ?_⟩
    exact OutS.next o1 hr1 ((hs.mono e1 e2).set hx i)⟩
end
end Nv

namespace Nv
open PySem PySem.Spec PyProof.Rows L2
mutual
/-- all cells that it names are among the first n -/
def closedD (n : Nat) : D → Bool
  | .non => true
  | .bl _ => true
  | .int _ => true
  | .str _ => true
  | .lst ds => closedDs n ds
  | .tup ds => closedDs n ds
  | .cell i => decide (i < n)
  | .edct => true
  | .fn _ => true
  | .exc _ _ ds => closedDs n ds
def closedDs (n : Nat) : List D → Bool
  | [] => true
  | d :: ds => closedD n d && closedDs n ds
end
def closedC (n : Nat) : Cell → Bool
  | .lst ds => closedDs n ds
  | .dk kvs => closedDs n (kvs.map (·.2))
  | .dt kvs => closedDs n (kvs.map (·.2))
  | .fz ds => closedDs n ds
  | .dn kvs => closedDs n (kvs.map (·.2))
  | .obj _ fs => closedDs n (fs.map (·.2))
  | .lk kvs => closedDs n (kvs.map (·.2))
mutual
theorem keyN_closed : ∀ (d : D) {k : NestedKey}, keyN d = some k → closedD 0 d = true
  | .non, _, _ => rfl
  | .bl _, _, _ => rfl
  | .int _, _, _ => rfl
  | .tup ds, k, e => by
    have e : (keysN ds).map NestedKey.tup = some k := e
    cases h : keysN ds with
    | none => rw [h] at e; cases e
    | some ks => exact keysN_closed ds h
  | .str _, _, e => nomatch e
  | .lst _, _, e => nomatch e
  | .cell _, _, e => nomatch e
  | .edct, _, e => nomatch e
  | .fn _, _, e => nomatch e
  | .exc _ _ _, _, e => nomatch e
theorem keysN_closed : ∀ (ds : List D) {ks : List NestedKey}, keysN ds = some ks → closedDs 0 ds = true
  | [], _, _ => rfl
  | d :: ds, ks, e => by
    have e : (keyN d).bind (fun k => (keysN ds).map (k :: ·)) = some ks := e
    cases h : keyN d with
    | none => rw [h] at e; cases e
    | some k =>
      rw [h, Option.bind_some] at e
      cases g : keysN ds with
      | none => rw [g] at e; cases e
      | some ks' =>
        show (closedD 0 d && closedDs 0 ds) = true
        rw [keyN_closed d h, keysN_closed ds g]
        rfl
end
mutual
theorem closed_up {n m : Nat} (h : n ≤ m) : ∀ d : D, closedD n d = true → closedD m d = true
  | .non, _ => rfl
  | .bl _, _ => rfl
  | .int _, _ => rfl
  | .str _, _ => rfl
  | .lst ds, c => closeds_up h ds c
  | .tup ds, c => closeds_up h ds c
  | .cell i, c => decide_eq_true (Nat.lt_of_lt_of_le (of_decide_eq_true c) h)
  | .edct, _ => rfl
  | .fn _, _ => rfl
  | .exc _ _ ds, c => closeds_up h ds c
theorem closeds_up {n m : Nat} (h : n ≤ m) : ∀ ds : List D, closedDs n ds = true → closedDs m ds = true
  | [], _ => rfl
  | d :: ds, c => by
    have c : (closedD n d && closedDs n ds) = true := c
    rw [Bool.and_eq_true] at c
    show (closedD m d && closedDs m ds) = true
    rw [closed_up h d c.1, closeds_up h ds c.2]
    rfl
end
section
variable {K : PySem.W.Frag} {mg : Str → Option Value} {E : XK} {B F F' : Hp} {r r' : List Addr} {H : Hp} {C : Store}
mutual
theorem Rep.closed : ∀ {d : D} {v : V}, Rep K F r d v → closedD r.length d = true
  | .non, _, _ => rfl
  | .bl _, _, _ => rfl
  | .int _, _, _ => rfl
  | .str _, _, _ => rfl
  | .lst ds, _, h => by
    obtain ⟨a, vs, _, _, q⟩ := h
    exact Reps.closed q
  | .tup ds, _, h => by
    obtain ⟨a, vs, _, _, q⟩ := h
    exact Reps.closed q
  | .cell i, _, h => by
    obtain ⟨a, _, q⟩ := h
    exact decide_eq_true (List.getElem?_eq_some_iff.mp q).1
  | .edct, _, _ => rfl
  | .fn _, _, _ => rfl
  | .exc _ _ ds, _, h => by
    obtain ⟨a, C, us, _, _, _, q⟩ := h
    exact Reps.closed q
theorem Reps.closed : ∀ {ds : List D} {vs : List V}, Reps K F r ds vs → closedDs r.length ds = true
  | [], _, _ => rfl
  | d :: ds, _, h => by
    obtain ⟨v, w, _, h1, h2⟩ := h
    unfold closedDs
    rw [Rep.closed h1, Reps.closed h2]
    rfl
end
mutual
theorem Rep.cut {n : Nat} (hr : ∀ (i : Nat) (a : Addr), i < n → r[i]? = some a → r'[i]? = some a) : ∀ {d : D} {v : V}, closedD n d = true → Rep K F r d v → Rep K F r' d v
  | .non, _, _, h => h
  | .bl _, _, _, h => h
  | .int _, _, _, h => h
  | .str _, _, _, h => h
  | .lst ds, _, c, h => by
    obtain ⟨a, vs, e, s, q⟩ := h
    exact ⟨a, vs, e, s, Reps.cut hr c q⟩
  | .tup ds, _, c, h => by
    obtain ⟨a, vs, e, s, q⟩ := h
    exact ⟨a, vs, e, s, Reps.cut hr c q⟩
  | .cell i, _, c, h => by
    obtain ⟨a, e, q⟩ := h
    exact ⟨a, e, hr i a (of_decide_eq_true c) q⟩
  | .edct, _, _, h => h
  | .fn _, _, _, h => h
  | .exc _ _ ds, _, c, h => by
    obtain ⟨a, C, us, e, h1, h2, q⟩ := h
    exact ⟨a, C, us, e, h1, h2, Reps.cut hr c q⟩
theorem Reps.cut {n : Nat} (hr : ∀ (i : Nat) (a : Addr), i < n → r[i]? = some a → r'[i]? = some a) : ∀ {ds : List D} {vs : List V}, closedDs n ds = true → Reps K F r ds vs → Reps K F r' ds vs
  | [], _, _, h => h
  | d :: ds, _, c, h => by
    obtain ⟨v, w, e, h1, h2⟩ := h
    have c : (closedD n d && closedDs n ds) = true := c
    rw [Bool.and_eq_true] at c
    exact ⟨v, w, e, Rep.cut hr c.1 h1, Reps.cut hr c.2 h2⟩
end
theorem CellOk.cut {n : Nat} (hr : ∀ (i : Nat) (a : Addr), i < n → r[i]? = some a → r'[i]? = some a) {a : Addr} {c : Cell} (hc : closedC n c = true) (h : CellOk K F r H a c) : CellOk K F r' H a c := by
  cases c with
  | lst ds =>
    obtain ⟨h1, vs, h2, h3⟩ := h
    exact ⟨h1, vs, h2, Reps.cut hr hc h3⟩
  | dk kvs =>
    obtain ⟨h1, vs, h2, h3, h4⟩ := h
    exact ⟨h1, vs, h2, h3, Reps.cut hr hc h4⟩
  | dt kvs =>
    obtain ⟨h1, vs, h2, h3, h4⟩ := h
    exact ⟨h1, vs, h2, h3, Reps.cut hr hc h4⟩
  | fz ds =>
    obtain ⟨vs, h2, h3⟩ := h
    exact ⟨vs, h2, Reps.cut hr hc h3⟩
  | dn kvs =>
    obtain ⟨h1, xs, h2, h3, h4, h5⟩ := h
    exact ⟨h1, xs, h2, h3, Reps.cut hr hc h4, fun x hx => let ⟨d, k1, k2, k3⟩ := h5 x hx; ⟨d, k1, k2, Rep.cut hr (closed_up (Nat.zero_le _) d (keyN_closed d k1)) k3⟩⟩
  | obj c fs =>
    obtain ⟨h1, C, dx, gs, h2, h3, h4, h5⟩ := h
    exact ⟨h1, C, dx, gs, h2, h3, h4, Reps.cut hr hc h5⟩
  | lk kvs =>
    obtain ⟨o, vs, h2, h3, h4⟩ := h
    exact ⟨o, vs, h2, h3, Reps.cut hr hc h4⟩
theorem CellOk.closed {a : Addr} {c : Cell} (h : CellOk K F r H a c) : closedC r.length c = true := by
  cases c with
  | lst ds => obtain ⟨h1, vs, h2, h3⟩ := h; exact h3.closed
  | dk kvs => obtain ⟨h1, vs, h2, h3, h4⟩ := h; exact h4.closed
  | dt kvs => obtain ⟨h1, vs, h2, h3, h4⟩ := h; exact h4.closed
  | fz ds => obtain ⟨vs, h2, h3⟩ := h; exact h3.closed
  | dn kvs => obtain ⟨h1, xs, h2, h3, h4, h5⟩ := h; exact h4.closed
  | obj c fs => obtain ⟨h1, C, dx, gs, h2, h3, h4, h5⟩ := h; exact h5.closed
  | lk kvs => obtain ⟨o, vs, h2, h3, h4⟩ := h; exact h4.closed
/-- some cells alone: the first n, and those in ks -/
theorem Rel.pick {n : Nat} {ks : List Nat} (h : Rel K B F r' H C) (hn : n ≤ C.length) (hf : ∀ (i : Nat) (c : Cell), i < n → C[i]? = some c → closedC n c = true) (hk : ∀ k ∈ ks, n ≤ k ∧ ∃ c, C[k]? = some c ∧ closedC n c = true) (hd : ks.Nodup) :
    Rel K B F (r'.take n ++ ks.map fun k => r'.getD k 0) H (C.take n ++ ks.map fun k => C.getD k (.fz [])) := by
  have hln : (r'.take n).length = n := by rw [List.length_take, h.len]; omega
  have hcn : (C.take n).length = n := by rw [List.length_take]; omega
  have low : ∀ (i : Nat) (a : Addr), i < n → r'[i]? = some a → (r'.take n ++ ks.map fun k => r'.getD k 0)[i]? = some a := fun i a hi e => by
    rw [List.getElem?_append_left (by omega), List.getElem?_take_of_lt hi]
    exact e
  have src : ∀ (i : Nat) (a : Addr), (r'.take n ++ ks.map fun k => r'.getD k 0)[i]? = some a → (i < n ∧ r'[i]? = some a) ∨ ∃ k, ks[i - n]? = some k ∧ n ≤ i ∧ r'[k]? = some a := fun i a e => by
    by_cases hi : i < n
    · rw [List.getElem?_append_left (by omega), List.getElem?_take_of_lt hi] at e
      exact .inl ⟨hi, e⟩
    · rw [List.getElem?_append_right (by omega), hln, List.getElem?_map] at e
      obtain ⟨k, e1, e2⟩ := map_some e
      obtain ⟨_, c, hc, _⟩ := hk k (List.mem_of_getElem? e1)
      have hkl : k < r'.length := by rw [h.len]; exact (List.getElem?_eq_some_iff.mp hc).1
      refine .inr ⟨k, e1, by omega, ?_⟩
      rw [← e2, List.getD_eq_getElem?_getD, List.getElem?_eq_getElem hkl]
      rfl
  refine ⟨h.froz, h.base, h.apart, fun i a e => ?_, by simp [hln, hcn], fun i c a e1 e2 => ?_, fun i j a e1 e2 => ?_⟩
  · rcases src i a e with ⟨_, e⟩ | ⟨k, _, _, e⟩
    · exact h.offB i a e
    · exact h.offB k a e
  · rcases src i a e2 with ⟨hi, e⟩ | ⟨k, hks, hni, e⟩
    · rw [List.getElem?_append_left (by omega), List.getElem?_take_of_lt hi] at e1
      exact CellOk.cut low (hf i c hi e1) (h.cells i c a e1 e)
    · rw [List.getElem?_append_right (by omega), hcn, List.getElem?_map, hks] at e1
      obtain ⟨_, c', hc, hcl⟩ := hk k (List.mem_of_getElem? hks)
      have e1 : C.getD k (.fz []) = c := Option.some.inj e1
      rw [List.getD_eq_getElem?_getD, hc] at e1
      have e1 : c' = c := e1
      subst e1
      exact CellOk.cut low hcl (h.cells k c' a hc e)
  · rcases src i a e1 with ⟨hi, e⟩ | ⟨k, hks, hni, e⟩
    · rcases src j a e2 with ⟨hj, q⟩ | ⟨l, hls, hnj, q⟩
      · exact h.inj i j a e q
      · have := h.inj i l a e q
        have := (hk l (List.mem_of_getElem? hls)).1
        omega
    · rcases src j a e2 with ⟨hj, q⟩ | ⟨l, hls, hnj, q⟩
      · have := h.inj k j a e q
        have := (hk k (List.mem_of_getElem? hks)).1
        omega
      · have ekl := h.inj k l a e q
        subst ekl
        obtain ⟨h1, e1⟩ := List.getElem?_eq_some_iff.mp hks
        obtain ⟨h2, e2⟩ := List.getElem?_eq_some_iff.mp hls
        have := (List.getElem_inj hd).mp (e1.trans e2.symm)
        omega
/-! the cells that a call leaves behind -/
open Classical in
noncomputable def fin (C : Store) (d : D) (C' : Store) : RE :=
  if C.length ≤ C'.length ∧ ∀ (i : Nat), i < C.length → C'[i]? = C[i]? ∨ ∃ c, C'[i]? = some c ∧ closedC C.length c = true then
    match d with
    | .cell k => if k < C.length then .ok (.cell k, C'.take C.length) else match C'[k]? with
      | some c => if closedC C.length c = true then .ok (.cell C.length, C'.take C.length ++ [c]) else .no
      | none => .no
    | .tup [.cell a, .cell b] => match C'[a]?, C'[b]? with
      | some c, some c2 => if C.length ≤ a ∧ C.length ≤ b ∧ a ≠ b ∧ closedC C.length c = true ∧ closedC C.length c2 = true then .ok (.tup [.cell C.length, .cell (C.length + 1)], C'.take C.length ++ [c, c2]) else .no
      | _, _ => .no
    | d => if closedD C.length d = true then .ok (d, C'.take C.length) else .no
  else .no
theorem fin_ok {C' : Store} {H' : Hp} {d : D} {v : V} {Q : VK} (hr : Rel K B F r H C) (e1 : Same F F') (e2 : Ex r r') (hr' : Rel K B F' r' H' C') (hd : Rep K F' r' d v) (o : Out (Rep K) K mg E B F r (fin C d C') Q) : Q v H' := by
  unfold fin at o
  split at o
  case isFalse => exact False.elim o
  rename_i hc
  have hn := hc.1
  have hcl : ∀ (i : Nat) (c : Cell), i < C.length → C'[i]? = some c → closedC C.length c = true := fun i c hi e => by
    rcases hc.2 i hi with q | ⟨c', q, z⟩
    · rw [q] at e
      obtain ⟨a, _, k⟩ := hr.addrAt e
      rw [← hr.len]
      exact k.closed
    · rw [q] at e
      cases e
      exact z
  have hpre : ∀ (i : Nat) (a : Addr), i < C.length → r'[i]? = some a → ∀ t, (r'.take C.length ++ t)[i]? = some a := fun i a hi e t => by
    rw [List.getElem?_append_left (by rw [List.length_take, hr'.len]; omega), List.getElem?_take_of_lt hi]
    exact e
  have hrr : ∀ t, Ex r (r'.take C.length ++ t) := fun t i a e => by
    have hi : i < C.length := by rw [← hr.len]; exact (List.getElem?_eq_some_iff.mp e).1
    exact hpre i a hi (e2 i a e) t
  have gen : ∀ (o : Out (Rep K) K mg E B F r (if closedD C.length d = true then .ok (d, C'.take C.length) else .no) Q), Q v H' := fun o => by
    split at o
    · rename_i hcd
      have p := hr'.pick (n := C.length) (ks := []) hn hcl (fun _ z => nomatch z) .nil
      rw [List.map_nil, List.append_nil, List.map_nil, List.append_nil] at p
      refine o F' (r'.take C.length) H' v e1 (fun i a e => ?_) p (Rep.cut (fun i a hi e => ?_) hcd hd)
      · have := hrr [] i a e
        rwa [List.append_nil] at this
      · have := hpre i a hi e []
        rwa [List.append_nil] at this
    · exact False.elim o
  split at o
  · rename_i k
    split at o
    · rename_i hk
      refine gen ?_
      rw [if_pos (show closedD C.length (.cell k) = true from decide_eq_true hk)]
      exact o
    · rename_i hk
      split at o
      · rename_i c ec
        split at o
        · rename_i hcc
          have p := hr'.pick (n := C.length) (ks := [k]) hn hcl (fun j hj => by cases List.mem_singleton.mp hj; exact ⟨by omega, c, ec, hcc⟩) (by simp)
          obtain ⟨a, rfl, ha⟩ := hd
          have e3 : C'.getD k (.fz []) = c := by rw [List.getD_eq_getElem?_getD, ec]; rfl
          have e4 : r'.getD k 0 = a := by rw [List.getD_eq_getElem?_getD, ha]; rfl
          simp only [List.map_cons, List.map_nil, e3, e4] at p
          refine o F' (r'.take C.length ++ [a]) H' (.ref a) e1 (hrr [a]) p ⟨a, rfl, ?_⟩
          rw [List.getElem?_append_right (by rw [List.length_take]; omega), List.length_take, hr'.len, Nat.min_eq_left hn, Nat.sub_self]
          rfl
        · exact False.elim o
      · exact False.elim o
  · rename_i x y
    split at o
    · rename_i c c2 ec ec2
      split at o
      · rename_i hcc
        obtain ⟨h1, h2, h3, h4, h5⟩ := hcc
        have p := hr'.pick (n := C.length) (ks := [x, y]) hn hcl (fun j hj => by
          rcases List.mem_cons.mp hj with rfl | hj
          · exact ⟨h1, c, ec, h4⟩
          · cases List.mem_singleton.mp hj; exact ⟨h2, c2, ec2, h5⟩) (by simp [h3])
        obtain ⟨t, vs, rfl, hT, v1, w1, rfl, ⟨a, rfl, ha⟩, v2, w2, rfl, ⟨b, rfl, hb⟩, h6⟩ := hd
        cases (show w2 = [] from h6)
        have e3 : C'.getD x (.fz []) = c := by rw [List.getD_eq_getElem?_getD, ec]; rfl
        have e4 : r'.getD x 0 = a := by rw [List.getD_eq_getElem?_getD, ha]; rfl
        have e5 : C'.getD y (.fz []) = c2 := by rw [List.getD_eq_getElem?_getD, ec2]; rfl
        have e6 : r'.getD y 0 = b := by rw [List.getD_eq_getElem?_getD, hb]; rfl
        simp only [List.map_cons, List.map_nil, e3, e4, e5, e6] at p
        refine o F' (r'.take C.length ++ [a, b]) H' (.ref t) e1 (hrr [a, b]) p ⟨t, _, rfl, hT, .cons ⟨a, rfl, ?_⟩ (.one ⟨b, rfl, ?_⟩)⟩
        · rw [List.getElem?_append_right (by rw [List.length_take]; omega), List.length_take, hr'.len, Nat.min_eq_left hn, Nat.sub_self]
          rfl
        · rw [List.getElem?_append_right (by rw [List.length_take]; omega), List.length_take, hr'.len, Nat.min_eq_left hn, Nat.add_sub_cancel_left]
          rfl
      · exact False.elim o
    · exact False.elim o
  · exact gen o
end
/-- a def's body from its arguments -/
noncomputable def runD (n : Nat) (u : MS) : MF := fun ds C => (u (ds.map some ++ List.replicate (n - ds.length) none) C).bind fun p => match p.1.1 with
  | .nx => fin C .non p.2
  | .rt d => fin C d p.2
  | _ => .no
theorem Sls.start {K : PySem.W.Frag} {F : Hp} {r : List Addr} {N : List Str} {ds : List D} {vs : List V} (h : Reps K F r ds vs) : Sls K F r (ds.map some ++ List.replicate (N.length - ds.length) none) (L2.start N vs) := by
  unfold L2.start
  rw [← h.length]
  refine ⟨by simp [h.length], fun i d e => ?_⟩
  by_cases hi : i < ds.length
  · rw [List.getElem?_append_left (by simpa using hi), List.getElem?_map] at e
    obtain ⟨d', e1, e2⟩ := map_some e
    cases e2
    obtain ⟨v, h1, h2⟩ := h.get e1
    refine ⟨v, ?_, h2⟩
    rw [List.getElem?_append_left (by rw [List.length_map, ← h.length]; exact hi), List.getElem?_map, h1]
    rfl
  · rw [List.getElem?_append_right (by rw [List.length_map]; omega)] at e
    rw [List.getElem?_replicate] at e
    split at e
    · cases e
    · cases e
section
variable {P : Program} {w : World} {K : PySem.W.Frag} {mg : Str → Option Value} {base : Heap}
theorem okD {x qual : Str} {st : Stmt} {f : Addr} {fd : FuncData} {N ps : List Str} {k : Nat} {u : MS} (F : Fun K x qual st f fd) (S : FnScope N ps (defScope st))
    (hb : ∀ (cdv : Value) (A : Around) (outer : List Env) (s : Shared) (H : Hp) (E : XK), Room k (A.deeper (envOfC qual (defScope st) s.heap.objs.size f cdv)) → A.guards = some [] →
      NSs (cxOf (L2.CX P w) P w K mg base N qual (defScope st) f cdv A outer s H E) E (defBody st) u) : FnG P w K mg base (k + 1) f fd ps (spN K mg ps.length (runD N.length u)) := by
  refine fnG_of F S spN_len fun cdv A outer s H vs Q E hr hg h => ⟨_, (hb cdv A outer s H E hr hg).ps, ?_⟩
  obtain ⟨B, F, r, C, ds, hr, hd, hl, o⟩ := h
  refine ⟨B, F, r, _, C, hr, Sls.start hd, ?_⟩
  unfold runD at o
  cases hu : u (ds.map some ++ List.replicate (N.length - ds.length) none) C with
  | ok p =>
    obtain ⟨⟨fl, sl'⟩, C'⟩ := p
    rw [hu, R.bind_ok] at o
    intro F' r' H' e1 e2 hr'
    cases fl with
    | nx => exact fun s' _ => fin_ok (d := .non) hr e1 e2 hr' rfl o
    | rt d => exact fun v hv => fin_ok hr e1 e2 hr' hv o
    | bk => exact False.elim o
    | ct => exact False.elim o
  | ex y Cy => rw [hu] at o; exact o
  | no => rw [hu] at o; exact o
end
end Nv

namespace Nv
open PySem PySem.Spec PyProof.Rows L2

/-! the law's end -/
theorem Rel.begin (K : PySem.W.Frag) (H : Hp) : Rel K (fun _ => none) H [] H [] where
  froz := .refl H
  base := fun _ _ z => nomatch z
  apart := fun _ _ z => nomatch z
  offB := fun i a z => by simp at z
  len := rfl
  cells := fun i c a z _ => by simp at z
  inj := fun i j a z _ => by simp at z
theorem law_end {P : Program} {w : World} {K : PySem.W.Frag} {mg mb : Str → Option Value} {k : Nat} {fa a : Addr} {fd : FuncData} {x : Str} {mf : MF} {s₁ : Shared} {vs : List Value} {ns : List Int} {C' : Store}
    (KX : K.In s₁.heap) (hns : s₁.heap.Ns mainGlobals mg) (hb : s₁.heap.Ns builtinsNs mb) (hbb : ∀ x : Str, x ≠ "__name__" → mb x = bootBuiltins x) (hlim : s₁.heap.NoLimit) (hg : s₁.gens = #[])
    (ha : s₁.heap.get? a = some { cls := .type "list", data := .seq vs.toArray }) (hi : IntsAre vs ns) (hl : ns.length ≤ sizeLine) (hr : Room k callerA)
    (F : ∀ base : Heap, K.In base → base.Ns mainGlobals mg → FnG P w K mg base k fa fd [x] (spN K mg 1 mf)) (hbind : ∀ (s : Shared) (u : Value), BindsTo s fd ⟨[u], []⟩ [(x, u)])
    (hm : mf [.lst (ns.map D.int)] [] = .ok (.bl true, C')) :
    codeAny (model P w) callerA (.call (.ref fa) ⟨[.ref a], []⟩) (fun r s' => r = .ok (.ret (.bool true)) ∧ OldK s₁.heap s'.heap ∧ s'.os = s₁.os ∧ AllBare s'.gens) s₁ := by
  have rv := vals_ints hi
  have lenV := hi.length
  have go : ∀ H : Hp, Only H → SqL K H a (ns.map V.int) → HOk P w H s₁.heap → (∀ b, H b ≠ none → b = a) → (H a ≠ none → K.lookup a = none) →
      codeAny (model P w) callerA (.call (.ref fa) ⟨[.ref a], []⟩) (fun r s' => r = .ok (.ret (.bool true)) ∧ OldK s₁.heap s'.heap ∧ s'.os = s₁.os ∧ AllBare s'.gens) s₁ := by
    intro H hO hS hok hA hK
    have only : ∀ {b : Addr} {u : HO}, H b = some u → b = a := fun {b u} q => hA b (by rw [q]; simp)
    have nsK : ∀ {b : Addr} {m : Str → Option Value}, s₁.heap.Ns b m → (hidT s₁.heap H).Ns b m := fun {b m} ⟨o, es, ep, e, d, r⟩ => by
      refine ⟨o, es, ep, hidT_get e ?_, d, r⟩
      cases q : H b with
      | none => rfl
      | some u =>
        cases only q
        rw [ha] at e
        cases e
        have d' : Data.seq vs.toArray _ = Data.dict es ep := d
        cases d'
    have hKb : K.In (hidT s₁.heap H) := fun b o e => by
      refine hidT_get (KX b o e) ?_
      cases q : H b with
      | none => rfl
      | some u =>
        cases only q
        rw [hK (by rw [q]; simp)] at e
        cases e
    have hM : Mod K mg (hidT s₁.heap H) := ⟨hKb, nsK hns, ⟨mb, nsK hb, hbb⟩, let ⟨mc, h1, h2⟩ := hlim; ⟨mc, nsK h1, h2⟩⟩
    have nomem : ∀ {b : Addr}, b ∉ frs [] := fun {b} hb => absurd (show b ∈ ([] : List Addr) from hb) (by simp)
    have e0 : Env0 P w K mg (hidT s₁.heap H) callerA [] s₁ H := ⟨rfl, hM, fun b o e => of_hidT e, Nat.le_of_eq (hidT_size _ _), trivial, fun b hb => (nomem hb).elim, hok, .of_eq hg⟩
    have hsp : spN K mg 1 mf [.ref a] H (fun v _ => v = .bl true) (fun _ _ _ => False) := by
      refine ⟨fun _ => none, H, [], [], [.lst (ns.map D.int)], Rel.begin K H, ⟨.ref a, [], rfl, ⟨a, ns.map V.int, rfl, hS, Reps.ofInts ns⟩, rfl⟩, rfl, ?_⟩
      rw [hm]
      exact fun F' r' H' v _ _ _ hv => hv
    refine codeAny_mono ((F _ hKb (nsK hns)).run callerA [] s₁ H ⟨[.ref a], []⟩ [.ref a] [.ref a] _ _ hr rfl e0 (hbind s₁ (.ref a)) (.cons rfl .nil) hsp) fun r s' h => ?_
    cases r with
    | error e =>
      obtain ⟨_, _, _, _, _, _, _, _, _, _, _, _, z⟩ := (show L2.CX P w [] H s₁ (fun _ _ _ => False) e s' from h)
      exact z.elim
    | ok fl =>
      cases fl with
      | next => exact False.elim h
      | brk => exact False.elim h
      | cont => exact False.elim h
      | ret u =>
        obtain ⟨v, H', os, bare, un, hok', r', q⟩ := h
        cases (show v = .bl true from q)
        cases (show u = Value.bool true from r')
        refine ⟨rfl, OldK.of_keep fun b o e => ?_, os, bare⟩
        cases q : H b with
        | none => exact un.keep b o e q nomem (by simp)
        | some u =>
          rcases hO b with z | ⟨ob, xs, z⟩
          · rw [q] at z; cases z
          · obtain ⟨e1, _⟩ := hok b _ z
            obtain ⟨e2, _⟩ := hok' b _ (un.frzs b ob _ z)
            rw [e] at e1
            cases e1
            exact e2
  cases hk : K.lookup a with
  | some o =>
    have e := KX a o hk
    rw [ha] at e
    cases e
    exact go (fun _ => none) (fun _ => .inl rfl) (.inr ⟨_, vs.toArray, _, hk, rfl, rfl, rfl, by rw [List.size_toArray, lenV]; exact hl, by simpa using rv⟩) (fun b u z => nomatch (show (none : Option HO) = some u from z)) (fun b z => absurd rfl z) fun z => absurd rfl z
  | none =>
    refine go (fun b => if b = a then some (.frz { cls := .type "list", data := .seq vs.toArray } (.lst (ns.map V.int))) else none) (fun b => ?_) (.inl (.inr ⟨{ cls := .type "list", data := .seq vs.toArray }, if_pos rfl⟩)) (fun b u z => ?_) (fun b z => ?_) fun _ => hk
    · by_cases hb : b = a
      · exact .inr ⟨_, _, if_pos hb⟩
      · exact .inl (if_neg hb)
    · by_cases hb : b = a
      · cases (if_pos hb).symm.trans z
        subst hb
        exact ⟨ha, by rw [List.length_map]; exact hl, vs, _, rv, ha⟩
      · cases (if_neg hb).symm.trans z
    · by_cases hb : b = a
      · exact hb
      · exact absurd (if_neg hb) z
theorem walkG {l : PySem.W.OpenLaw} {n k : Nat} {q : Program} {loose : List Str} {XP : (Str → Option Value) → Heap → Prop} {YP : World → Heap → Prop} {d : DefRec} {K : Params → PySem.W.Frag} {mf : MF} {x : Str}
    (hn : l.most = some n) (hn2 : n ≤ sizeLine) (hdf : d.params.defaults = []) (hr : Room k callerA) (hY : ∀ (w : World) (h : Heap), YP w h → (K w.params).In h)
    (F : ∀ (w : World) (mg : Str → Option Value) (fa : Addr) (h : Heap), (K w.params).In h → h.Ns mainGlobals mg → mg d.name = some (.ref fa) →
      ∃ fd : FuncData, (∀ (s : Shared) (u : Value), BindsTo s fd ⟨[u], []⟩ [(x, u)]) ∧ ∀ base : Heap, (K w.params).In base → base.Ns mainGlobals mg → FnG l.prog w (K w.params) mg base k fa fd [x] (spN (K w.params) mg 1 mf))
    (hm : ∀ ns : List Int, ns.length ≤ n → ∃ C', mf [.lst (ns.map D.int)] [] = .ok (.bl true, C')) :
    PySem.W.WalkO q loose XP YP l.row.toRowW d [] (fun f vs => PySem.call f vs) := by
  refine Att.attach_call hn hdf fun w s₀ s₁ mg mb fa o pm cd doc a vs ns G Y ho hd hcd hmg hobj hints hlen hg => ?_
  obtain ⟨fd, hb, hF⟩ := F w mg fa _ (hY w _ Y) G.T.g hmg
  obtain ⟨C', hm⟩ := hm ns hlen
  exact law_end (hY w _ Y) G.T.g G.T.b G.T.builtins G.T.nolimit hg hobj hints (Nat.le_trans hlen hn2) hr hF hb hm

/-! freezing -/
def frzL (f : D → Store → Option (D × Store)) : List D → Store → Option (List D × Store)
  | [], C => some ([], C)
  | d :: ds, C => (f d C).bind fun p => (frzL f ds p.2).bind fun q => some (p.1 :: q.1, q.2)
def frz : Nat → D → Store → Option (D × Store)
  | 0, x, C => some (x, C)
  | n + 1, x, C => match x with
    | .cell k => match C[k]? with
      | some (.lst ds) => (frzL (frz n) ds (C.set k (.fz ds))).bind fun q => some (.lst q.1, q.2)
      | some (.fz ds) => (frzL (frz n) ds C).bind fun q => some (.lst q.1, q.2)
      | _ => none
    | .tup ds => (frzL (frz n) ds C).bind fun q => some (.tup q.1, q.2)
    | .lst ds => (frzL (frz n) ds C).bind fun q => some (.lst q.1, q.2)
    | x => some (x, C)
section
variable {K : PySem.W.Frag} {mg : Str → Option Value} {E : XK} {B F F' H : Hp} {r r' : List Addr} {C : Store} {Q : VK} {X : Cx} {e : Expr} {m : ME}
theorem frzL_ok {f : D → Store → Option (D × Store)} (hf : ∀ (F : Hp) (C C' : Store) (x x' : D) (v : V), Rel K B F r H C → Rep K F r x v → f x C = some (x', C') → ∃ F', Same F F' ∧ Rel K B F' r H C' ∧ Rep K F' r x' v) :
    ∀ (ds ds' : List D) (F : Hp) (C C' : Store) (vs : List V), Rel K B F r H C → Reps K F r ds vs → frzL f ds C = some (ds', C') → ∃ F', Same F F' ∧ Rel K B F' r H C' ∧ Reps K F' r ds' vs
  | [], ds', F, C, C', vs, hr, hd, h => by cases h; exact ⟨F, .refl F, hr, hd⟩
  | d :: ds, ds', F, C, C', vs, hr, hd, h => by
    obtain ⟨v, w, rfl, h1, h2⟩ := hd
    unfold frzL at h
    obtain ⟨⟨d1, C1⟩, k1, h⟩ := bind_some h
    obtain ⟨⟨d2, C2⟩, k2, h⟩ := bind_some h
    cases h
    obtain ⟨F1, q1, q2, q3⟩ := hf F C C1 d d1 v hr h1 k1
    obtain ⟨F2, q4, q5, q6⟩ := frzL_ok hf ds d2 F1 C1 C2 w q2 (h2.mono q1 (.refl _)) k2
    exact ⟨F2, q1.trans q4, q5, .cons (q3.mono q4 (.refl _)) q6⟩
theorem frz_ok : ∀ (n : Nat) (F : Hp) (C C' : Store) (x x' : D) (v : V), Rel K B F r H C → Rep K F r x v → frz n x C = some (x', C') → ∃ F', Same F F' ∧ Rel K B F' r H C' ∧ Rep K F' r x' v
  | 0, F, C, C', x, x', v, hr, hx, h => by cases h; exact ⟨F, .refl F, hr, hx⟩
  | n + 1, F, C, C', x, x', v, hr, hx, h => by
    have ih := frz_ok n
    cases x with
    | cell k =>
      have h : (match C[k]? with
      | some (.lst ds) => (frzL (frz n) ds (C.set k (.fz ds))).bind fun q => some (.lst q.1, q.2)
      | some (.fz ds) => (frzL (frz n) ds C).bind fun q => some (.lst q.1, q.2)
      | _ => none) = some (x', C') := h
      obtain ⟨a, rfl, h1⟩ := hx
      split at h
      · rename_i ds hc
        obtain ⟨⟨ds', C1⟩, k1, h⟩ := bind_some h
        cases h
        obtain ⟨h2, vs, h3, h4⟩ := hr.cells k _ a hc h1
        obtain ⟨q1, q2⟩ := hr.kill h1 h2 h3 h4
        obtain ⟨F', q3, q4, q5⟩ := frzL_ok ih ds ds' _ _ _ vs q1 (h4.mono q2 (.refl _)) k1
        exact ⟨F', q2.trans q3, q4, a, vs, rfl, .inl (.inl (q3 _ _ upd_same)), q5⟩
      · rename_i ds hc
        obtain ⟨⟨ds', C1⟩, k1, h⟩ := bind_some h
        cases h
        obtain ⟨vs, h3, h4⟩ := hr.cells k _ a hc h1
        obtain ⟨F', q3, q4, q5⟩ := frzL_ok ih ds ds' _ _ _ vs hr h4 k1
        exact ⟨F', q3, q4, a, vs, rfl, .inl (.inl (q3 _ _ h3)), q5⟩
      · cases h
    | tup ds =>
      obtain ⟨⟨ds', C1⟩, k1, h⟩ := bind_some (show ((frzL (frz n) ds C).bind fun q => some (.tup q.1, q.2)) = some (x', C') from h)
      cases h
      obtain ⟨a, vs, rfl, h1, h2⟩ := hx
      obtain ⟨F', q3, q4, q5⟩ := frzL_ok ih ds ds' _ _ _ vs hr h2 k1
      exact ⟨F', q3, q4, a, vs, rfl, Same.tup q3 h1, q5⟩
    | lst ds =>
      obtain ⟨⟨ds', C1⟩, k1, h⟩ := bind_some (show ((frzL (frz n) ds C).bind fun q => some (.lst q.1, q.2)) = some (x', C') from h)
      cases h
      obtain ⟨a, vs, rfl, h1, h2⟩ := hx
      obtain ⟨F', q3, q4, q5⟩ := frzL_ok ih ds ds' _ _ _ vs hr h2 k1
      exact ⟨F', q3, q4, a, vs, rfl, Same.seq q3 h1, q5⟩
    | non => cases h; exact ⟨F, .refl F, hr, hx⟩
    | bl b => cases h; exact ⟨F, .refl F, hr, hx⟩
    | int b => cases h; exact ⟨F, .refl F, hr, hx⟩
    | str b => cases h; exact ⟨F, .refl F, hr, hx⟩
    | edct => cases h; exact ⟨F, .refl F, hr, hx⟩
    | fn b => cases h; exact ⟨F, .refl F, hr, hx⟩
    | exc c f b => cases h; exact ⟨F, .refl F, hr, hx⟩
/-- frozen, the cells of the value's making let go -/
noncomputable def mFz (n : Nat) (m : ME) : ME := fun sl C => (m sl C).bind fun p => match frz n p.1 p.2 with
  | some q => fin C q.1 q.2
  | none => .no
theorem ne_fz (n : Nat) (he : NE X E e m) : NE X E e (mFz n m) := ⟨pe_imp he.pe fun s H Q q => by
    obtain ⟨B, F, r, sl, C, hr, hs, o⟩ := q
    refine ⟨B, F, r, sl, C, hr, hs, ?_⟩
    unfold mFz at o
    cases hm : m sl C with
    | ok p =>
      obtain ⟨d, C1⟩ := p
      rw [hm, R.bind_ok] at o
      intro F' r' H' v e1 e2 hr' hd
      simp only at o
      split at o
      · rename_i z hz
        obtain ⟨d2, C2⟩ := z
        obtain ⟨F2, q1, q2, q3⟩ := frz_ok n F' C1 C2 d d2 v hr' hd hz
        exact fin_ok hr (e1.trans q1) e2 q2 q3 o
      · exact False.elim o
    | ex y Cy => rw [hm] at o; exact o
    | no => rw [hm] at o; exact o⟩
end
end Nv

namespace Nv
open PySem PySem.Spec PyProof.Rows L2
section
variable {X : Cx} {E : XK} {a b c e : Expr} {es : List Expr} {m ma mb mc : ME} {mas : MG (List D)} {pos p1 : Pos}
/-- a op b op' c -/
def mCh (g g' : D → D → Store → RE) (ma mb mc : ME) : ME := fun sl C => (ma sl C).bind fun p => (mb sl p.2).bind fun q => (g p.1 q.1 q.2).bind fun t => match t.1 with
  | .bl true => (mc sl t.2).bind fun z => g' q.1 z.1 z.2
  | .bl false => .ok (.bl false, t.2)
  | _ => .no
theorem chain_ok {r1 r2 : R2} {g g' : D → D → Store → RE} (hg : OpN X.K X.mg E r1 g) (hg' : OpN X.K X.mg E r2 g') :
    ∀ s H Q, LG (Rep X.K) X.K X.mg E (mCh g g' ma mb mc) s H Q → tChain r1 r2 (LG (Rep X.K) X.K X.mg E ma) (LG (Rep X.K) X.K X.mg E mb) (LG (Rep X.K) X.K X.mg E mc) s H Q := fun s H Q q => by
  obtain ⟨B, F, r, sl, C, hr, hs, o⟩ := q
  refine ⟨B, F, r, sl, C, hr, hs, Out.bind (P := Rep X.K) o fun x C1 F1 r1 H1 v e1 e2 hr1 hx o1 => ?_⟩
  refine ⟨B, F1, r1, sl, C1, hr1, hs.mono e1 e2, Out.bind (P := Rep X.K) o1 fun y C2 F2 r2' H2 u e3 e4 hr2 hy o2 => ?_⟩
  refine hg B F2 r2' H2 C2 x y v u _ hr2 (hx.mono e3 e4) hy (Out.bind (P := Rep X.K) o2 fun z C3 F3 r3 H3 w e5 e6 hr3 hz o3 => ?_)
  cases z with
  | bl k =>
    refine ⟨k, hz, ?_⟩
    cases k with
    | false =>
      rw [if_neg Bool.false_ne_true]
      exact out_ok (d := .bl false) hr3 rfl o3
    | true =>
      rw [if_pos rfl]
      refine ⟨B, F3, r3, sl, C3, hr3, ((hs.mono e1 e2).mono e3 e4).mono e5 e6, Out.bind (P := Rep X.K) o3 fun t C4 F4 r4 H4 w4 e7 e8 hr4 ht o4 => ?_⟩
      exact hg' B F4 r4 H4 C4 y t u w4 Q hr4 ((hy.mono e5 e6).mono e7 e8) ht o4
  | _ => exact False.elim o3
theorem ne_ch {op op' : CmpOp} {r1 r2 : R2} {g g' : D → D → Store → RE} (ho : OpR X (compareOp op) r1) (ho' : OpR X (compareOp op') r2) (hg : OpN X.K X.mg E r1 g) (hg' : OpN X.K X.mg E r2 g') (ha : NE X E a ma) (hb : NE X E b mb) (hc : NE X E c mc) (hmk : lastMarks [op, op'] [b, c] = false := by with_unfolding_all rfl) :
    NE X E (.Compare a [op, op'] [b, c] pos) (mCh g g' ma mb mc) := ⟨pe_imp (pe_chain ho ho' ha.pe hb.pe hc.pe hmk) (chain_ok hg hg')⟩
/-- a constant of the module -/
def GlobC (mg : Str → Option Value) (K : PySem.W.Frag) (x : Str) (d : D) : Prop := ∃ u v, mg x = some u ∧ RelV v u ∧ ∀ F r, Rep K F r d v
theorem ne_glob {x : Str} {d : D} (h : GlobC X.mg X.K x d) (hg : Gl X x := by rfl) (hd : (x == ("__debug__" : Str)) = false := by decide) : NE X E (.Name x pos) (mC d) := by
  obtain ⟨u, v, h1, h2, h3⟩ := h
  exact ne_c (pe_glob hg h1 h2 hd) h3
end

/-! defs by their names -/
def Cal (P : Program) (w : World) (K : PySem.W.Frag) (mg : Str → Option Value) (base : Heap) (x : Str) (k n : Nat) (mf : MF) : Prop :=
  ∃ f fd ps, FnG P w K mg base k f fd ps (spN K mg n mf) ∧ mg x = some (.ref f) ∧ PySem.W.keepIn K (.ref f) = true ∧ L2.Binds K fd ps []
def DefAt (K : PySem.W.Frag) (mg : Str → Option Value) (x : Str) (st : Stmt) (ps : List Str) : Prop := ∃ f fd, Fun K x x st f fd ∧ mg x = some (.ref f) ∧ L2.Binds K fd ps []
section
variable {P : Program} {w : World} {K : PySem.W.Frag} {mg : Str → Option Value} {base : Heap}
theorem Cal.mono {x : Str} {j k n : Nat} {mf : MF} (h : Cal P w K mg base x j n mf) (hjk : j ≤ k) : Cal P w K mg base x k n mf := by
  obtain ⟨f, fd, ps, h1, h2⟩ := h
  exact ⟨f, fd, ps, h1.mono hjk, h2⟩
theorem Cal.of {x : Str} {st : Stmt} {N ps : List Str} {k : Nat} {u : MS} (h : DefAt K mg x st ps) (S : FnScope N ps (defScope st))
    (hb : ∀ (f : Addr) (cdv : Value) (A : Around) (outer : List Env) (s : Shared) (H : Hp) (E : XK), Room k (A.deeper (envOfC x (defScope st) s.heap.objs.size f cdv)) → A.guards = some [] →
      NSs (cxOf (L2.CX P w) P w K mg base N x (defScope st) f cdv A outer s H E) E (defBody st) u) : Cal P w K mg base x (k + 1) ps.length (runD N.length u) := by
  obtain ⟨f, fd, h1, h2, h3⟩ := h
  exact ⟨f, fd, ps, okD h1 S fun cdv A outer s H E hr hg => hb f cdv A outer s H E hr hg, h2, h1.kp, h3⟩
end
section
variable {X : Cx} {E : XK} {e : Expr} {es : List Expr} {mas : MG (List D)} {pos p1 : Pos}
theorem ne_cal {x : Str} {k n : Nat} {mf : MF} (h : Cal X.prog X.w X.K X.mg X.base x k n mf) (hr : Room k X.A) (hgd : X.A.guards = some []) (hx : Passes (L2.CX X.prog X.w) X E) (ha : NA X E (e :: es) mas) (hg : Gl X x := by rfl)
    (hdb : (x == ("__debug__" : Str)) = false := by decide) (he : starEach (e :: es) X.env = (false, eval e X.env) :: starEach es X.env := by rfl) (hpl : (backTo pos (starEach es X.env)).any (·.1) = false := by rfl) : NE X E (.Call (.Name x p1) (e :: es) [] pos) (mF n mf mas) := by
  obtain ⟨f, fd, ps, h1, h2, h3, h4⟩ := h
  exact ne_call h1 hr hgd h2 h3 h4 hx ha hg hdb he hpl
end
theorem Cal.zero {P : Program} {w : World} {K : PySem.W.Frag} {mg : Str → Option Value} {base : Heap} {x : Str} {st : Stmt} {ps : List Str} {k : Nat} (h : DefAt K mg x st ps) : Cal P w K mg base x k ps.length (fun _ _ => .no) := by
  obtain ⟨f, fd, h1, h2, h3⟩ := h
  exact ⟨f, fd, ps, ⟨spN_len, fun A outer s H args us vs Q E _ _ _ _ _ h => by
    obtain ⟨_, _, _, _, _, _, _, _, o⟩ := h
    exact False.elim o⟩, h2, h1.kp, h3⟩
theorem pass_cx {P : Program} {w : World} {K : PySem.W.Frag} {mg : Str → Option Value} {base : Heap} {N : List Str} {qual : Str} {scope : Scope} {f : Addr} {cd : Value} {A : Around} {outer : List Env} {s : Shared} {H : Hp} {E : XK} :
    Passes (L2.CX P w) (cxOf (L2.CX P w) P w K mg base N qual scope f cd A outer s H E) E := passes_call (takes_of rfl rfl rfl rfl) fun _ _ _ _ h => h
theorem own_cx {P : Program} {w : World} {K : PySem.W.Frag} {mg : Str → Option Value} {base : Heap} {N : List Str} {qual : Str} {scope : Scope} {f : Addr} {cd : Value} {A : Around} {outer : List Env} {s : Shared} {H : Hp} {E : XK} :
    PassesOwn (model P w) (cxOf (L2.CX P w) P w K mg base N qual scope f cd A outer s H E).A (cxOf (L2.CX P w) P w K mg base N qual scope f cd A outer s H E).env (cxOf (L2.CX P w) P w K mg base N qual scope f cd A outer s H E).xe := passes_of (X := cxOf (L2.CX P w) P w K mg base N qual scope f cd A outer s H E) rfl
end Nv

namespace Nv
open PySem PySem.Spec PyProof.Rows L2
/-! the cells that a block made go, and some names with them -/
def slOk (n : Nat) (sl : Sl) : Bool := sl.all fun o => match o with
  | some d => closedD n d
  | none => true
open Classical in
noncomputable def sGc (ks : List Nat) (u : MS) : MS := fun sl C => (u sl C).bind fun p => match p.1.1 with
  | .nx => if C.length ≤ p.2.length ∧ (∀ (i : Nat), i < C.length → p.2[i]? = C[i]? ∨ ∃ c, p.2[i]? = some c ∧ closedC C.length c = true) ∧ slOk C.length (wipeS p.1.2 ks) = true then .ok ((.nx, wipeS p.1.2 ks), p.2.take C.length) else .no
  | .ct => if C.length ≤ p.2.length ∧ (∀ (i : Nat), i < C.length → p.2[i]? = C[i]? ∨ ∃ c, p.2[i]? = some c ∧ closedC C.length c = true) ∧ slOk C.length (wipeS p.1.2 ks) = true then .ok ((.ct, wipeS p.1.2 ks), p.2.take C.length) else .no
  | _ => .ok p
section
variable {K : PySem.W.Frag} {mg : Str → Option Value} {E : XK} {B F F' : Hp} {r r' : List Addr} {H H' : Hp} {C C1 : Store} {De : Ends} {s : L2.St} {sl sl1 : Sl}
theorem wipeS_sub : ∀ (ks : List Nat) (sl : Sl) (i : Nat) (d : D), (wipeS sl ks)[i]? = some (some d) → sl[i]? = some (some d) := by
  intro ks
  induction ks with
  | nil => intro sl i d h; exact h
  | cons k ks ih =>
    intro sl i d h
    unfold wipeS at h
    by_cases hk : k = i
    · subst hk
      rw [List.getElem?_set] at h
      split at h
      · split at h <;> cases h
      · exact ih _ _ _ h
    · rw [List.getElem?_set_ne hk] at h
      exact ih _ _ _ h
theorem wipeS_len : ∀ (ks : List Nat) (sl : Sl), (wipeS sl ks).length = sl.length := by
  intro ks
  induction ks with
  | nil => intro sl; rfl
  | cons k ks ih => intro sl; unfold wipeS; rw [List.length_set, ih]
theorem slOk_get {n : Nat} {sl : Sl} {i : Nat} {d : D} (h : slOk n sl = true) (e : sl[i]? = some (some d)) : closedD n d = true := by
  unfold slOk at h
  rw [List.all_eq_true] at h
  exact h _ (List.mem_of_getElem? e)
theorem gc_core {ks : List Nat} (hr : Rel K B F r H C) (hn : C.length ≤ C1.length) (hc : ∀ (i : Nat), i < C.length → C1[i]? = C[i]? ∨ ∃ c, C1[i]? = some c ∧ closedC C.length c = true) (hsl : slOk C.length (wipeS sl1 ks) = true)
    (e1 : Same F F') (e2 : Ex r r') (hr' : Rel K B F' r' H' C1) : ∃ r2, Ex r r2 ∧ Rel K B F' r2 H' (C1.take C.length) ∧ ∀ s, Sls K F' r' sl1 s → Sls K F' r2 (wipeS sl1 ks) s := by
  have hcl : ∀ (i : Nat) (c : Cell), i < C.length → C1[i]? = some c → closedC C.length c = true := fun i c hi e => by
    rcases hc i hi with q | ⟨c', q, z⟩
    · rw [q] at e
      obtain ⟨a, _, k⟩ := hr.addrAt e
      rw [← hr.len]
      exact k.closed
    · rw [q] at e
      cases e
      exact z
  have p := hr'.pick (n := C.length) (ks := []) hn hcl (fun _ z => nomatch z) .nil
  rw [List.map_nil, List.append_nil, List.map_nil, List.append_nil] at p
  have hcut : ∀ (i : Nat) (a : Addr), i < C.length → r'[i]? = some a → (r'.take C.length)[i]? = some a := fun i a hi e => by
    rw [List.getElem?_take_of_lt hi]
    exact e
  refine ⟨r'.take C.length, fun i a e => ?_, p, fun s hs => ?_⟩
  · have hi : i < C.length := by rw [← hr.len]; exact (List.getElem?_eq_some_iff.mp e).1
    exact hcut i a hi (e2 i a e)
  · refine ⟨by rw [wipeS_len]; exact hs.1, fun i d e => ?_⟩
    obtain ⟨v, h1, h2⟩ := hs.2 i d (wipeS_sub _ _ _ _ e)
    exact ⟨v, h1, Rep.cut hcut (slOk_get hsl e) h2⟩
variable {X : Cx} {st : List Stmt} {u : MS}
theorem nss_gc (ks : List Nat) (h : NSs X E st u) : NSs X E st (sGc ks u) := ⟨pss_imp h.ps fun De s H q => by
    obtain ⟨B, F, r, sl, C, hr, hs, o⟩ := q
    refine ⟨B, F, r, sl, C, hr, hs, ?_⟩
    unfold sGc at o
    cases hu : u sl C with
    | ok p =>
      obtain ⟨⟨f, sl1⟩, C1⟩ := p
      rw [hu, R.bind_ok] at o
      cases f with
      | nx =>
        simp only at o
        split at o
        · rename_i hc
          obtain ⟨h1, h2, h3⟩ := hc
          intro F' r' H' k1 k2 k3 s' hs'
          obtain ⟨r2, g1, g2, g3⟩ := gc_core hr h1 h2 h3 k1 k2 k3
          exact o F' r2 H' k1 g1 g2 s' (g3 s' hs')
        · exact False.elim o
      | ct =>
        simp only at o
        split at o
        · rename_i hc
          obtain ⟨h1, h2, h3⟩ := hc
          intro F' r' H' k1 k2 k3 s' hs'
          obtain ⟨r2, g1, g2, g3⟩ := gc_core hr h1 h2 h3 k1 k2 k3
          exact o F' r2 H' k1 g1 g2 s' (g3 s' hs')
        · exact False.elim o
      | rt d => exact o
      | bk => exact o
    | ex x Cx => rw [hu] at o; exact o
    | no => rw [hu] at o; exact o⟩
end
/-! a def that leaves its cells where they are -/
def runK (n : Nat) (u : MS) : MF := fun ds C => (u (ds.map some ++ List.replicate (n - ds.length) none) C).bind fun p => match p.1.1 with
  | .nx => .ok (.non, p.2)
  | .rt d => .ok (d, p.2)
  | _ => .no
section
variable {P : Program} {w : World} {K : PySem.W.Frag} {mg : Str → Option Value} {base : Heap}
end
end Nv

namespace Nv
open PySem PySem.Spec PyProof.Rows L2
section
variable {K : PySem.W.Frag} {mg : Str → Option Value} {E : XK} {B F H : Hp} {r : List Addr} {C : Store} {Q : VK} {X : Cx} {a b e : Expr} {es : List Expr} {m ma mb mo : ME} {mas : MG (List D)} {pos p1 p2 p3 : Pos}
/-! (a, b, ..) = a list -/
def gLstT (K : PySem.W.Frag) (n : Nat) (t : TGs) : TG := fun v σ H Q => ∃ a xs, v = .ref a ∧ SqL K H a xs ∧ xs.length = n ∧ t xs σ H Q
theorem pg_lst {es : List Expr} {k n : Nat} {t : TGs} (hc : X.calm = true) (h : PGs X es t) (hn : (assignEach es X.env).length = n := by rfl) (hst : (assignEach es X.env).findIdx? (·.1) = none := by rfl) : PG X (.Tuple es k pos) (gLstT X.K n t) :=
  ⟨fun pins s σ H v u Q I r hw => by
    obtain ⟨a, xs, rfl, hq, hl, hw⟩ := hw
    cases r
    obtain ⟨its, rv, p, hz⟩ := I.list hq
    have hlen := rv.length
    rw [assign_Tuple]
    refine wpAny_bind (wpAny_standAt ?_)
    unfold unpack
    rw [hst, show (assignEach es X.env).length = its.toArray.size from by rw [hn, List.size_toArray]; omega]
    refine wpAny_bind (wpAny_holding (PySem.W.kun_itemsOf (I.ok.hd hc) p.isList fun h' hx => ?_))
    have I1 : Inv X pins σ H { s with heap := h' } := I.kept (t' := s.toks) fun b o q => hx b o (Nat.ne_of_lt (Heap.lt_size q)) q
    exact h.run pins _ σ H xs its Q I1 rv hw⟩
/-! (a, b, ..) = a tuple or a list -/
theorem pg_or {tg : Expr} {t t' : TG} (h : PG X tg t) (h' : PG X tg t') : PG X tg (fun v σ H Q => t v σ H Q ∨ t' v σ H Q) := ⟨fun pins s σ H v u Q I r hw => hw.elim (h.run pins s σ H v u Q I r) (h'.run pins s σ H v u Q I r)⟩
def gmSq (n : Nat) (gs : List D → Sl → Store → R (Sl × Store)) : MT := fun d sl C => match tupOf d with
  | some ds => if ds.length = n then gs ds sl C else .no
  | none => match lstOf C d with
    | some ds => if ds.length = n then gs ds sl C else .no
    | none => .no
theorem ng_sq {own : List Nat} {tgs : List Expr} {k n : Nat} {gs : List D → Sl → Store → R (Sl × Store)} (hc : X.calm = true) (h : NGs X E own tgs gs) (hn : (assignEach tgs X.env).length = n := by rfl)
    (hst : (assignEach tgs X.env).findIdx? (·.1) = none := by rfl) : NG X E own (.Tuple tgs k pos) (gmSq n gs) := ⟨pg_imp (pg_or (pg_tup hc h.pg hn hst) (pg_lst hc h.pg hn hst)) fun v s H Q q => by
    obtain ⟨B, F, r, sl, C, d, hr, hs, hd, o⟩ := q
    unfold gmSq at o
    split at o
    · rename_i ds e
      split at o
      · rename_i hl
        obtain ⟨a, vs, rfl, h2, h3⟩ := tupOf_ok hr hd e
        exact .inl ⟨a, vs, rfl, h2, by rw [← h3.length]; exact hl, B, F, r, sl, C, ds, hr, hs, h3, o⟩
      · exact False.elim o
    · split at o
      · rename_i ds e
        split at o
        · rename_i hl
          obtain ⟨a, vs, rfl, h2, h3⟩ := lstOf_ok hr hd e
          exact .inr ⟨a, vs, rfl, h2, by rw [← h3.length]; exact hl, B, F, r, sl, C, ds, hr, hs, h3, o⟩
        · exact False.elim o
      · exact False.elim o⟩
/-! a constant of the module that is a tuple -/
theorem gc_tup {x : Str} {a : Addr} {od : Option Addr} {its : Array Value} {n : Nat} {osl : Array (Option Value)} {ds : List D} {vs : List V} (hm : mg x = some (.ref a)) (l : K.lookup a = some ⟨.type "tuple", od, .seq its n, osl⟩)
    (hz : its.size ≤ sizeLine) (hv : Vals vs its.toList) (hr : ∀ (F : Hp) (r : List Addr), Reps K F r ds vs) : GlobC mg K x (.tup ds) :=
  ⟨.ref a, .ref a, hm, rfl, fun F r => ⟨a, vs, rfl, .inr ⟨_, its, n, l, rfl, rfl, hz, hv⟩, hr F r⟩⟩
end
end Nv

namespace Nv
open PySem PySem.Spec PyProof.Rows L2
section
variable {K : PySem.W.Frag} {mg : Str → Option Value} {E : XK} {B F H : Hp} {r : List Addr} {C : Store} {Q : VK} {X : Cx} {a b e o value : Expr} {es : List Expr} {m ma mb mo mv : ME} {mas : MG (List D)} {pos p1 p2 p3 : Pos}
/-! dicts whose keys are tuples of whole numbers and texts, asked by a tuple that is written there -/
def keyOf : D → Option Key
  | .int i => some (.inl i)
  | .str x => some (.inr x)
  | _ => none
theorem keyOf_ok {d : D} {v : V} {k : Key} (h : Rep K F r d v) (e : keyOf d = some k) : v = kV k := by
  cases d with
  | int i => cases e; exact h
  | str x => cases e; exact h
  | _ => cases e
section
variable {κ : Type} [DecidableEq κ]
def valD (kvs : List (κ × D)) (k : κ) : Option D := (kvs.find? fun kv => decide (kv.1 = k)).map (·.2)
def putD (kvs : List (κ × D)) (k : κ) (v : D) : List (κ × D) :=
  if (kvs.any fun kv => decide (kv.1 = k)) = true then kvs.map (fun kv => if kv.1 = k then (kv.1, v) else kv) else kvs ++ [(k, v)]
theorem putD_keys {k : κ} {d : D} {v : V} {kvs : List (κ × D)} {ws : List (κ × V)} (h : kvs.map (·.1) = ws.map (·.1)) : (putD kvs k d).map (·.1) = (putK ws k v).map (·.1) := by
  have ha : (kvs.any fun kv => decide (kv.1 = k)) = (ws.any fun kv => decide (kv.1 = k)) := by
    rw [show (kvs.any fun kv => decide (kv.1 = k)) = (kvs.map (·.1)).any fun q => decide (q = k) from by rw [List.any_map]; rfl,
      show (ws.any fun kv => decide (kv.1 = k)) = (ws.map (·.1)).any fun q => decide (q = k) from by rw [List.any_map]; rfl, h]
  unfold putD putK
  rw [ha]
  split
  · rw [List.map_map, List.map_map]
    have e1 : ((·.1) ∘ fun kv : κ × D => if kv.1 = k then (kv.1, d) else kv) = (·.1) := funext fun kv => by
      show (if kv.1 = k then (kv.1, d) else kv).1 = kv.1
      split <;> rfl
    have e2 : ((·.1) ∘ fun kv : κ × V => if kv.1 = k then (kv.1, v) else kv) = (·.1) := funext fun kv => by
      show (if kv.1 = k then (kv.1, v) else kv).1 = kv.1
      split <;> rfl
    rw [e1, e2, h]
  · rw [List.map_append, List.map_append, h]
    rfl
theorem put_map {k : κ} {d : D} {v : V} (hd : Rep K F r d v) : ∀ {kvs : List (κ × D)} {ws : List (κ × V)}, kvs.map (·.1) = ws.map (·.1) → Reps K F r (kvs.map (·.2)) (ws.map (·.2)) →
    Reps K F r ((kvs.map fun kv => if kv.1 = k then (kv.1, d) else kv).map (·.2)) ((ws.map fun kv => if kv.1 = k then (kv.1, v) else kv).map (·.2))
  | [], [], _, _ => rfl
  | [], _ :: _, h, _ => by cases h
  | kv :: kvs, [], h, _ => by cases h
  | kv :: kvs, w :: ws, h, hr => by
    obtain ⟨x, xs, e1, h1, h2⟩ := hr
    rw [List.map_cons, List.cons.injEq] at e1
    rw [List.map_cons, List.map_cons, List.cons.injEq] at h
    refine ⟨(if w.1 = k then (w.1, v) else w).2, _, rfl, ?_, put_map hd h.2 (by rw [e1.2]; exact h2)⟩
    show Rep K F r (if kv.1 = k then (kv.1, d) else kv).2 (if w.1 = k then (w.1, v) else w).2
    by_cases hk : kv.1 = k
    · rw [if_pos hk, if_pos (h.1.symm.trans hk)]
      exact hd
    · rw [if_neg hk, if_neg (fun q => hk (h.1.trans q))]
      show Rep K F r kv.2 w.2
      rw [e1.1]
      exact h1
theorem putD_reps {k : κ} {d : D} {v : V} {kvs : List (κ × D)} {ws : List (κ × V)} (h : kvs.map (·.1) = ws.map (·.1)) (hr : Reps K F r (kvs.map (·.2)) (ws.map (·.2))) (hd : Rep K F r d v) :
    Reps K F r ((putD kvs k d).map (·.2)) ((putK ws k v).map (·.2)) := by
  have ha : (kvs.any fun kv => decide (kv.1 = k)) = (ws.any fun kv => decide (kv.1 = k)) := by
    rw [show (kvs.any fun kv => decide (kv.1 = k)) = (kvs.map (·.1)).any fun q => decide (q = k) from by rw [List.any_map]; rfl,
      show (ws.any fun kv => decide (kv.1 = k)) = (ws.map (·.1)).any fun q => decide (q = k) from by rw [List.any_map]; rfl, h]
  unfold putD putK
  rw [ha]
  split
  · exact put_map hd h hr
  · rw [List.map_append, List.map_append]
    exact hr.append ⟨v, [], rfl, hd, rfl⟩
end
end
end Nv

namespace Nv
open PySem PySem.Spec PyProof.Rows L2
theorem lstAt_lst {C : Store} {k : Nat} {ds : List D} (h : C[k]? = some (.lst ds)) : lstAt C k = some ds := by unfold lstAt; rw [h]
theorem mutAt_lst {C : Store} {k : Nat} {ds : List D} (h : C[k]? = some (.lst ds)) : mutAt C k = some ds := by unfold mutAt; rw [h]
theorem get_set_self {C : Store} {k : Nat} {c d : Cell} (h : C[k]? = some c) : (C.set k d)[k]? = some d := List.getElem?_set_self (List.getElem?_eq_some_iff.mp h).1
/-- all cells but k stay -/
def Upd (k : Nat) (C C' : Store) : Prop := C'.length = C.length ∧ ∀ i, i ≠ k → C'[i]? = C[i]?
theorem Upd.refl (k : Nat) (C : Store) : Upd k C C := ⟨rfl, fun _ _ => rfl⟩
theorem Upd.trans {k : Nat} {C C1 C2 : Store} (a : Upd k C C1) (b : Upd k C1 C2) : Upd k C C2 := ⟨b.1.trans a.1, fun i hi => (b.2 i hi).trans (a.2 i hi)⟩
theorem Upd.set (k : Nat) (C : Store) (c : Cell) : Upd k C (C.set k c) := ⟨by simp, fun i hi => List.getElem?_set_ne (Ne.symm hi)⟩
/-! fin -/
theorem closedD_mono {n m : Nat} (h : n ≤ m) (d : D) : closedD n d = true → closedD m d = true := closed_up h d
theorem closedDs_mono {n m : Nat} (h : n ≤ m) (ds : List D) : closedDs n ds = true → closedDs m ds = true := closeds_up h ds
@[simp] theorem closedDs_ints (n : Nat) : ∀ l : List Int, closedDs n (l.map D.int) = true
  | [] => rfl
  | x :: l => by simp [closedDs, closedD, closedDs_ints n l]
@[simp] theorem closedDs_strs (n : Nat) : ∀ l : List Str, closedDs n (l.map D.str) = true
  | [] => rfl
  | x :: l => by simp [closedDs, closedD, closedDs_strs n l]
@[simp] theorem closedDs_bls (n : Nat) : ∀ l : List Bool, closedDs n (l.map D.bl) = true
  | [] => rfl
  | x :: l => by simp [closedDs, closedD, closedDs_bls n l]
theorem fin_cond {C C' : Store} {k : Nat} {c : Cell} (u : Upd k C C') (hk : C'[k]? = some c ∧ closedC C.length c = true ∨ C.length ≤ k) : C.length ≤ C'.length ∧ ∀ (i : Nat), i < C.length → C'[i]? = C[i]? ∨ ∃ c, C'[i]? = some c ∧ closedC C.length c = true :=
  ⟨by rw [u.1]; exact Nat.le_refl _, fun i hi => by
    by_cases h : i = k
    · subst h
      rcases hk with hk | hk
      · exact .inr ⟨c, hk⟩
      · omega
    · exact .inl (u.2 i h)⟩
def flatR : D → Bool
  | .cell _ => false
  | .tup _ => false
  | _ => true
/-- a value that is no cell -/
theorem fin_val {C C' : Store} {d : D} (hc : C.length ≤ C'.length ∧ ∀ (i : Nat), i < C.length → C'[i]? = C[i]? ∨ ∃ c, C'[i]? = some c ∧ closedC C.length c = true) (hf : flatR d = true) (hd : closedD C.length d = true) :
    fin C d C' = .ok (d, C'.take C.length) := by
  unfold fin
  rw [if_pos hc]
  cases d with
  | cell k => cases hf
  | tup ds => cases hf
  | _ => simp only [hd, if_true]
theorem same_cond (C X : Store) : C.length ≤ (C ++ X).length ∧ ∀ (i : Nat), i < C.length → (C ++ X)[i]? = C[i]? ∨ ∃ c, (C ++ X)[i]? = some c ∧ closedC C.length c = true :=
  ⟨by simp, fun i hi => .inl (List.getElem?_append_left hi)⟩
theorem fin_pure {C : Store} (X : Store) {d : D} (hf : flatR d = true) (hd : closedD 0 d = true) : fin C d (C ++ X) = .ok (d, C) := by
  rw [fin_val (same_cond C X) hf (closedD_mono (Nat.zero_le _) d hd), List.take_left']
  rfl
theorem fin_pure0 {C : Store} {d : D} (hf : flatR d = true) (hd : closedD 0 d = true) : fin C d C = .ok (d, C) := by
  have := fin_pure (C := C) [] hf hd
  rwa [List.append_nil] at this
/-- the cell that comes at C's end -/
theorem fin_cell {C : Store} {X Y : Store} {c : Cell} (hc : closedC 0 c = true) : fin C (.cell (C.length + X.length)) (C ++ X ++ c :: Y) = .ok (.cell C.length, C ++ [c]) := by
  have hcl : closedC C.length c = true := by
    cases c with
    | lst ds => exact closedDs_mono (Nat.zero_le _) ds hc
    | dk ds => exact closedDs_mono (Nat.zero_le _) _ hc
    | dt ds => exact closedDs_mono (Nat.zero_le _) _ hc
    | fz ds => exact closedDs_mono (Nat.zero_le _) ds hc
    | dn ds => exact closedDs_mono (Nat.zero_le _) _ hc
    | obj c ds => exact closedDs_mono (Nat.zero_le _) _ hc
    | lk ds => exact closedDs_mono (Nat.zero_le _) _ hc
  have e : C ++ X ++ c :: Y = C ++ (X ++ c :: Y) := by simp
  unfold fin
  rw [e, if_pos (same_cond C _)]
  have e2 : (C ++ (X ++ c :: Y))[C.length + X.length]? = some c := by
    rw [List.getElem?_append_right (by omega), List.getElem?_append_right (by omega)]
    simp
  simp only [e2, hcl, if_true]
  rw [if_neg (by omega), List.take_left']
  rfl
theorem fin_cell0 {C : Store} {c : Cell} (hc : closedC 0 c = true) : fin C (.cell C.length) (C ++ [c]) = .ok (.cell C.length, C ++ [c]) := by
  have := fin_cell (C := C) (X := []) (Y := []) hc
  simpa using this
/-! frozen results -/
theorem frzL_id {f : D → Store → Option (D × Store)} (C : Store) : ∀ ds : List D, (∀ d ∈ ds, f d C = some (d, C)) → frzL f ds C = some (ds, C)
  | [], _ => rfl
  | d :: ds, h => by
    unfold frzL
    rw [h d List.mem_cons_self, Option.bind_some, frzL_id C ds fun x hx => h x (List.mem_cons_of_mem _ hx)]
    rfl
theorem closed_mem {n : Nat} : ∀ {ds : List D} {d : D}, closedDs n ds = true → d ∈ ds → closedD n d = true
  | x :: ds, d, h, hm => by
    unfold closedDs at h
    rw [Bool.and_eq_true] at h
    rcases List.mem_cons.mp hm with rfl | hm
    · exact h.1
    · exact closed_mem h.2 hm
theorem frz_id : ∀ (n : Nat) (C : Store) (d : D), closedD 0 d = true → frz n d C = some (d, C)
  | 0, _, _, _ => rfl
  | n + 1, C, d, h => by
    cases d with
    | cell k => simp [closedD] at h
    | tup ds =>
      show (frzL (frz n) ds C).bind _ = _
      rw [frzL_id C ds fun x hx => frz_id n C x (closed_mem h hx)]
      rfl
    | lst ds =>
      show (frzL (frz n) ds C).bind _ = _
      rw [frzL_id C ds fun x hx => frz_id n C x (closed_mem h hx)]
      rfl
    | _ => rfl
end Nv

namespace Nv
open PySem PySem.Spec PyProof.Rows L2
/-! what holds of a mirror's end -/
def W {S : Type} (o : R (S × Store)) (Q : S → Store → Prop) : Prop := ∃ a C, o = .ok (a, C) ∧ Q a C
def WS (o : RS) (Q : Fl → Sl → Store → Prop) : Prop := ∃ f sl C, o = .ok ((f, sl), C) ∧ Q f sl C
section
variable {S S2 : Type} {Q : S → Store → Prop} {QD : D → Store → Prop} {QB : Bool → Store → Prop} {QL : List D → Store → Prop} {QS : Fl → Sl → Store → Prop} {sl : Sl} {C C1 C2 : Store} {m ma mb mc : ME} {t ta tb : MG Bool} {mas : MG (List D)} {u u1 u2 : MS}
theorem W.ok {a : S} (h : Q a C) : W (.ok (a, C)) Q := ⟨a, C, rfl, h⟩
theorem W.of {o : R (S × Store)} {a : S} (e : o = .ok (a, C)) (h : Q a C) : W o Q := ⟨a, C, e, h⟩
theorem W.imp {o : R (S × Store)} {Q' : S → Store → Prop} (h : W o Q) (hq : ∀ a C, Q a C → Q' a C) : W o Q' := by
  obtain ⟨a, C, e, q⟩ := h
  exact ⟨a, C, e, hq a C q⟩
theorem W.bind {o : R (S2 × Store)} {k : S2 × Store → R (S × Store)} (h : W o fun a C => W (k (a, C)) Q) : W (o.bind k) Q := by
  obtain ⟨a, C, e, b, C', e', q⟩ := h
  exact ⟨b, C', by rw [e]; exact e', q⟩
theorem W.bindS {o : R (S2 × Store)} {k : S2 × Store → RS} (h : W o fun a C => WS (k (a, C)) QS) : WS (o.bind k) QS := by
  obtain ⟨a, C, e, f, sl, C', e', q⟩ := h
  exact ⟨f, sl, C', by rw [e]; exact e', q⟩
theorem WS.bindS {o : RS} {k : (Fl × Sl) × Store → RS} (h : WS o fun f sl C => WS (k ((f, sl), C)) QS) : WS (o.bind k) QS := by
  obtain ⟨f, sl, C, e, g, sl', C', e', q⟩ := h
  exact ⟨g, sl', C', by rw [e]; exact e', q⟩
theorem WS.bind {o : RS} {k : (Fl × Sl) × Store → R (S × Store)} (h : WS o fun f sl C => W (k ((f, sl), C)) Q) : W (o.bind k) Q := by
  obtain ⟨f, sl, C, e, b, C', e', q⟩ := h
  exact ⟨b, C', by rw [e]; exact e', q⟩
theorem WS.ok {f : Fl} (h : QS f sl C) : WS (.ok ((f, sl), C)) QS := ⟨f, sl, C, rfl, h⟩
theorem WS.imp {o : RS} {Q' : Fl → Sl → Store → Prop} (h : WS o QS) (hq : ∀ f sl C, QS f sl C → Q' f sl C) : WS o Q' := by
  obtain ⟨f, sl, C, e, q⟩ := h
  exact ⟨f, sl, C, e, hq f sl C q⟩
/-- an equation from it -/
theorem W.eq {o : R (S × Store)} {a : S} (h : W o fun b C' => b = a ∧ C' = C) : o = .ok (a, C) := by
  obtain ⟨b, C', e, rfl, rfl⟩ := h
  exact e
/-! expressions -/
theorem w_var {i : Nat} {d : D} (e : sl[i]? = some (some d)) (h : QD d C) : W (mVar i sl C) QD := ⟨d, C, by unfold mVar; rw [e], h⟩
theorem w_c {d : D} (h : QD d C) : W (mC d sl C) QD := ⟨d, C, rfl, h⟩
theorem w_2 {g : D → D → Store → RE} (h : W (ma sl C) fun x C1 => W (mb sl C1) fun y C2 => W (g x y C2) QD) : W (m2 g ma mb sl C) QD := W.bind (h.imp fun _ _ h => W.bind h)
theorem w_1 {g : D → Store → RE} (h : W (ma sl C) fun x C1 => W (g x C1) QD) : W (m1 g ma sl C) QD := W.bind h
theorem w_T (h : W (m sl C) fun x C1 => ∃ b, x = .bl b ∧ QB b C1) : W (mT m sl C) QB := W.bind (h.imp fun x C h => by
  obtain ⟨b, rfl, q⟩ := h
  exact W.ok q)
theorem w_tAnd (h : W (ta sl C) fun b C1 => if b = true then W (tb sl C1) QB else QB false C1) : W (tAndM ta tb sl C) QB := W.bind (h.imp fun b C h => by
  cases b with
  | true => exact h
  | false => exact W.ok h)
theorem w_tOr (h : W (ta sl C) fun b C1 => if b = true then QB true C1 else W (tb sl C1) QB) : W (tOrM ta tb sl C) QB := W.bind (h.imp fun b C h => by
  cases b with
  | false => exact h
  | true => exact W.ok h)
theorem w_tNot (h : W (ta sl C) fun b C1 => QB (!b) C1) : W (tNotM ta sl C) QB := W.bind (h.imp fun b C h => W.ok h)
theorem w_and (h : W (ma sl C) fun x C1 => ∃ b, x = .bl b ∧ if b = true then W (mb sl C1) QD else QD (.bl false) C1) : W (mAnd ma mb sl C) QD := W.bind (h.imp fun x C h => by
  obtain ⟨b, rfl, h⟩ := h
  cases b with
  | true => exact h
  | false => exact W.ok h)
theorem w_or (h : W (ma sl C) fun x C1 => ∃ b, x = .bl b ∧ if b = true then QD (.bl true) C1 else W (mb sl C1) QD) : W (mOr ma mb sl C) QD := W.bind (h.imp fun x C h => by
  obtain ⟨b, rfl, h⟩ := h
  cases b with
  | false => exact h
  | true => exact W.ok h)
theorem w_not (h : W (ma sl C) fun x C1 => ∃ b, x = .bl b ∧ QD (.bl (!b)) C1) : W (mNot ma sl C) QD := W.bind (h.imp fun x C h => by
  obtain ⟨b, rfl, h⟩ := h
  exact W.ok h)
theorem w_if (h : W (t sl C) fun b C1 => if b = true then W (ma sl C1) QD else W (mb sl C1) QD) : W (mIf t ma mb sl C) QD := W.bind (h.imp fun b C h => by
  cases b with
  | true => exact h
  | false => exact h)
theorem w_ch {g g' : D → D → Store → RE} (h : W (ma sl C) fun x C1 => W (mb sl C1) fun y C2 => W (g x y C2) fun z C3 => ∃ b, z = .bl b ∧ if b = true then W (mc sl C3) fun w C4 => W (g' y w C4) QD else QD (.bl false) C3) : W (mCh g g' ma mb mc sl C) QD :=
  W.bind (h.imp fun _ _ h => W.bind (h.imp fun _ _ h => W.bind (h.imp fun z C3 h => by
    obtain ⟨b, rfl, h⟩ := h
    cases b with
    | true => exact W.bind h
    | false => exact W.ok h)))
theorem w_aNil (h : QL [] C) : W (aNil sl C) QL := W.ok h
theorem w_aCons (h : W (ma sl C) fun x C1 => W (mas sl C1) fun xs C2 => QL (x :: xs) C2) : W (aCons ma mas sl C) QL := W.bind (h.imp fun _ _ h => W.bind (h.imp fun _ _ h => W.ok h))
theorem w_newF {ds : List D} (h : QD (.lst ds) C) : W (newL false ds C) QD := W.ok h
theorem w_newC {ds : List D} (h : QD (.cell C.length) (C ++ [.lst ds])) : W (newL true ds C) QD := W.ok h
theorem w_lst {c : Bool} (h : W (mas sl C) fun xs C1 => xs.length ≤ sizeLine ∧ W (newL c xs C1) QD) : W (mLst c mas sl C) QD := W.bind (h.imp fun xs C1 h => by
  simp only [if_pos h.1]
  exact h.2)
theorem w_tup (h : W (mas sl C) fun xs C1 => xs.length ≤ sizeLine ∧ QD (.tup xs) C1) : W (mTup mas sl C) QD := W.bind (h.imp fun xs C1 h => by
  simp only [if_pos h.1]
  exact W.ok h.2)
theorem w_cb {g : List D → Store → RE} (h : W (mas sl C) fun xs C1 => W (g xs C1) QD) : W (mCB g mas sl C) QD := W.bind h
theorem w_F {n : Nat} {mf : MF} (h : W (mas sl C) fun xs C1 => xs.length = n ∧ W (mf xs C1) QD) : W (mF n mf mas sl C) QD := W.bind (h.imp fun xs C1 h => by
  simp only [if_pos h.1]
  exact h.2)
theorem w_rep {c : Bool} (h : W (mas sl C) fun xs C1 => xs.length ≤ sizeLine ∧ W (mb sl C1) fun y C2 => ∃ k, y = .int k ∧ lowI k = true ∧ xs.length * k.toNat ≤ sizeLine ∧ W (newL c (List.replicate k.toNat xs).flatten C2) QD) : W (mRep c mas mb sl C) QD :=
  W.bind (h.imp fun xs C1 h => by
    simp only [if_pos h.1]
    refine W.bind (h.2.imp fun y C2 h => ?_)
    obtain ⟨k, rfl, h1, h2, h3⟩ := h
    simp only [intOf, if_pos (And.intro h1 h2)]
    exact h3)
theorem w_sl {c : Bool} {ml mh : MG (Option Int)} (h : W (ma sl C) fun x C1 => W (ml sl C1) fun l C2 => W (mh sl C2) fun u C3 => W (gSl c x l u C3) QD) : W (mSl c ma ml mh sl C) QD := W.bind (h.imp fun _ _ h => W.bind (h.imp fun _ _ h => W.bind h))
theorem w_oNone {QO : Option Int → Store → Prop} (h : QO none C) : W (oNone sl C) QO := W.ok h
theorem w_oSome {QO : Option Int → Store → Prop} (h : W (m sl C) fun x C1 => ∃ i, x = .int i ∧ QO (some i) C1) : W (oSome m sl C) QO := W.bind (h.imp fun x C1 h => by
  obtain ⟨i, rfl, h⟩ := h
  exact W.ok h)
theorem w_mt {chk : Store → D → Bool} {g : D → List D → Store → RE} (h : W (ma sl C) fun x C1 => chk C1 x = true ∧ W (mas sl C1) fun xs C2 => W (g x xs C2) QD) : W (mMt chk g ma mas sl C) QD := W.bind (h.imp fun x C1 h => by
  simp only [if_pos h.1]
  exact W.bind h.2)
theorem w_mt0 {chk : Store → D → Bool} {g : D → List D → Store → RE} (h : W (ma sl C) fun x C1 => chk C1 x = true ∧ W (g x [] C1) QD) : W (mMt0 chk g ma sl C) QD := W.bind (h.imp fun x C1 h => by
  simp only [if_pos h.1]
  exact h.2)
/-! statements -/
theorem w_nil (h : QS .nx sl C) : WS (sNil sl C) QS := WS.ok h
def thenS (u2 : MS) (QS : Fl → Sl → Store → Prop) : Fl → Sl → Store → Prop := fun f sl C => match f with
  | .nx => WS (u2 sl C) QS
  | f => QS f sl C
theorem w_seq (h : WS (u1 sl C) (thenS u2 QS)) : WS (sSeq u1 u2 sl C) QS := WS.bindS (h.imp fun f sl C h => by
  cases f with
  | nx => exact h
  | rt d => exact WS.ok h
  | bk => exact WS.ok h
  | ct => exact WS.ok h)
theorem w_then (h : WS (u2 sl C) QS) : thenS u2 QS .nx sl C := h
theorem w_thenR {d : D} (h : QS (.rt d) sl C) : thenS u2 QS (.rt d) sl C := h
theorem w_thenB (h : QS .bk sl C) : thenS u2 QS .bk sl C := h
theorem w_thenC (h : QS .ct sl C) : thenS u2 QS .ct sl C := h
theorem w_bk (h : QS .bk sl C) : WS (sBk sl C) QS := WS.ok h
theorem w_ct (h : QS .ct sl C) : WS (sCt sl C) QS := WS.ok h
theorem w_drop (h : W (m sl C) fun _ C1 => QS .nx sl C1) : WS (sDrop m sl C) QS := W.bindS (h.imp fun _ _ h => WS.ok h)
theorem w_ret (h : W (m sl C) fun x C1 => QS (.rt x) sl C1) : WS (sRet m sl C) QS := W.bindS (h.imp fun _ _ h => WS.ok h)
theorem w_retN (h : QS (.rt .non) sl C) : WS (sRetN sl C) QS := WS.ok h
theorem w_sif (h : W (t sl C) fun b C1 => if b = true then WS (u1 sl C1) QS else WS (u2 sl C1) QS) : WS (sIf t u1 u2 sl C) QS := W.bindS (h.imp fun b C h => by
  cases b with
  | true => exact h
  | false => exact h)
theorem w_asg {g : MT} (h : W (m sl C) fun x C1 => W (g x sl C1) fun sl2 C2 => QS .nx sl2 C2) : WS (sAsg m g sl C) QS := W.bindS (h.imp fun _ _ h => W.bindS (h.imp fun _ _ h => WS.ok h))
theorem w_gmN {i : Nat} {d : D} {Q : Sl → Store → Prop} (h : Q (sl.set i (some d)) C) : W (gmN i d sl C) Q := W.ok h
theorem w_gmNil {Q : Sl → Store → Prop} (h : Q sl C) : W (gmNil [] sl C) Q := W.ok h
theorem w_gmCons {g : MT} {gs : List D → Sl → Store → R (Sl × Store)} {d : D} {ds : List D} {Q : Sl → Store → Prop} (h : W (g d sl C) fun sl1 C1 => W (gs ds sl1 C1) Q) : W (gmCons g gs (d :: ds) sl C) Q := W.bind h
theorem w_gmTup {n : Nat} {gs : List D → Sl → Store → R (Sl × Store)} {ds : List D} {Q : Sl → Store → Prop} (hl : ds.length = n) (h : W (gs ds sl C) Q) : W (gmTup n gs (.tup ds) sl C) Q := by
  unfold gmTup tupOf
  simp only [if_pos hl]
  exact h
theorem w_par {i j : Nat} (h : W (mas sl C) fun xs C1 => ∃ x y, xs = [x, y] ∧ QS .nx ((sl.set i (some x)).set j (some y)) C1) : WS (sPar i j mas sl C) QS := W.bindS (h.imp fun xs C1 h => by
  obtain ⟨x, y, rfl, h⟩ := h
  exact WS.ok h)
theorem w_aug {i : Nat} {g : D → D → Store → RE} {x : D} (e : sl[i]? = some (some x)) (h : W (m sl C) fun y C1 => W (g x y C1) fun z C2 => QS .nx (sl.set i (some z)) C2) : WS (sAug i g m sl C) QS := by
  unfold sAug
  rw [e]
  exact W.bindS (h.imp fun _ _ h => W.bindS (h.imp fun _ _ h => WS.ok h))
theorem w_gmSub {mo mi : ME} {d : D} {Q : Sl → Store → Prop} (h : W (mo sl C) fun o C1 => W (mi sl C1) fun i C2 => W (gSet o i d C2) fun _ C3 => Q sl C3) : W (gmSub mo mi d sl C) Q := W.bind (h.imp fun _ _ h => W.bind (h.imp fun _ _ h => W.bind (h.imp fun _ _ h => W.ok h)))
/-! operations -/
theorem w_addI {c : Bool} {i j : Int} (h : QD (.int (i + j)) C) : W (gAdd c (.int i) (.int j) C) QD := W.ok h
theorem w_addL {c : Bool} {a b : List D} (hl : a.length + b.length ≤ sizeLine) (h : W (newL c (a ++ b) C) QD) : W (gAdd c (.lst a) (.lst b) C) QD := by
  show W (if a.length + b.length ≤ sizeLine then newL c (a ++ b) C else .no) QD
  rw [if_pos hl]
  exact h
theorem w_subI {i j : Int} (h : QD (.int (i - j)) C) : W (gSub (.int i) (.int j) C) QD := W.ok h
theorem w_negI {i : Int} (h : QD (.int (-i)) C) : W (gNeg (.int i) C) QD := W.ok h
theorem w_mulI {i j : Int} (hs : smallI i = true ∨ smallI j = true ∨ (bigI i = true ∧ bigI j = true)) (h : QD (.int (i * j)) C) : W (gMul (.int i) (.int j) C) QD := by
  refine W.of (a := .int (i * j)) (C := C) ?_ h
  show (if (smallI i || smallI j || (bigI i && bigI j)) = true then R.ok (D.int (i * j), C) else .no) = _
  rw [if_pos]
  rcases hs with h | h | ⟨h1, h2⟩
  · rw [h]; simp
  · rw [h]; simp
  · rw [h1, h2]; simp
theorem w_divI {i j : Int} (h0 : 0 < j) (h1 : j ≤ 10 ^ 60) (h : QD (.int (i / j)) C) : W (gDiv (.int i) (.int j) C) QD := by
  refine W.of (a := .int (i / j)) (C := C) ?_ h
  show (if 0 < j ∧ j ≤ 10 ^ 60 then R.ok (D.int (i / j), C) else .no) = _
  rw [if_pos ⟨h0, h1⟩]
theorem w_modI {i j : Int} (h0 : 0 < j) (h : QD (.int (i % j)) C) : W (gMod (.int i) (.int j) C) QD := by
  refine W.of (a := .int (i % j)) (C := C) ?_ h
  show (if 0 < j then R.ok (D.int (i % j), C) else .no) = _
  rw [if_pos h0]
theorem w_powI {i j : Int} (h0 : 0 ≤ j) (h1 : j ≤ 1000) (h2 : -powLine < i) (h3 : i < powLine) (h : QD (.int (i ^ j.toNat)) C) : W (gPow (.int i) (.int j) C) QD := by
  refine W.of (a := .int (i ^ j.toNat)) (C := C) ?_ h
  show (if 0 ≤ j ∧ j ≤ 1000 ∧ -powLine < i ∧ i < powLine then R.ok (D.int (i ^ j.toNat), C) else .no) = _
  rw [if_pos ⟨h0, h1, h2, h3⟩]
theorem w_ltI {i j : Int} (h : QD (.bl (decide (i < j))) C) : W (gLt (.int i) (.int j) C) QD := W.ok h
theorem w_leI {i j : Int} (h : QD (.bl (decide (i ≤ j))) C) : W (gLe (.int i) (.int j) C) QD := W.ok h
theorem w_gtI {i j : Int} (h : QD (.bl (decide (j < i))) C) : W (gGt (.int i) (.int j) C) QD := W.ok h
theorem w_geI {i j : Int} (h : QD (.bl (decide (j ≤ i))) C) : W (gGe (.int i) (.int j) C) QD := W.ok h
theorem w_eqI {i j : Int} (h : QD (.bl (decide (i = j))) C) : W (gEq (.int i) (.int j) C) QD := by
  refine W.of (a := .bl (decide (i = j))) (C := C) ?_ h
  show (if (SeqAt.shaped (.int i) && SeqAt.shaped (.int j)) = true then R.ok (D.bl (PyData.eqv (.int i) (.int j)), C) else .no) = _
  have e : (SeqAt.shaped (.int i) && SeqAt.shaped (.int j)) = true := rfl
  simp only [e, if_true]
  show R.ok (D.bl (i == j), C) = _
  rw [show (i == j) = decide (i = j) from by rw [Bool.eq_iff_iff]; simp]
theorem w_neI {i j : Int} (h : QD (.bl (!decide (i = j))) C) : W (gNe (.int i) (.int j) C) QD := by
  refine W.of (a := .bl (!decide (i = j))) (C := C) ?_ h
  show (if (SeqAt.shaped (.int i) && SeqAt.shaped (.int j)) = true then R.ok (D.bl (!PyData.eqv (.int i) (.int j)), C) else .no) = _
  have e : (SeqAt.shaped (.int i) && SeqAt.shaped (.int j)) = true := rfl
  simp only [e, if_true]
  show R.ok (D.bl (!(i == j)), C) = _
  rw [show (i == j) = decide (i = j) from by rw [Bool.eq_iff_iff]; simp]
theorem w_eqS {i j : Str} (h : QD (.bl (decide (i = j))) C) : W (gEq (.str i) (.str j) C) QD := W.ok h
theorem w_neS {i j : Str} (h : QD (.bl (!decide (i = j))) C) : W (gNe (.str i) (.str j) C) QD := W.ok h
/-- of values -/
theorem w_eqP {x y : D} {p q : PyData} (hx : toP C x = some p) (hy : toP C y = some q) (hp : SeqAt.shaped p = true) (hq : SeqAt.shaped q = true) (hn : ∀ a, x ≠ .str a) (h : QD (.bl (PyData.eqv p q)) C) : W (gEq x y C) QD := by
  refine W.of (a := .bl (PyData.eqv p q)) (C := C) ?_ h
  unfold gEq
  split
  · exact absurd rfl (hn _)
  · unfold gEq0
    simp only [hx, hy, hp, hq]
    rfl
theorem w_neP {x y : D} {p q : PyData} (hx : toP C x = some p) (hy : toP C y = some q) (hp : SeqAt.shaped p = true) (hq : SeqAt.shaped q = true) (hn : ∀ a, x ≠ .str a) (h : QD (.bl (!PyData.eqv p q)) C) : W (gNe x y C) QD := by
  refine W.of (a := .bl (!PyData.eqv p q)) (C := C) ?_ h
  unfold gNe
  split
  · exact absurd rfl (hn _)
  · unfold gNe0
    simp only [hx, hy, hp, hq]
    rfl
theorem w_eqB {a b : Bool} (h : QD (.bl (decide (a = b))) C) : W (gEq (.bl a) (.bl b) C) QD := by
  refine w_eqP rfl rfl rfl rfl (fun a e => by cases e) ?_
  have : PyData.eqv (.bool a) (.bool b) = decide (a = b) := by cases a <;> cases b <;> decide
  rwa [this]
theorem w_neB {a b : Bool} (h : QD (.bl (!decide (a = b))) C) : W (gNe (.bl a) (.bl b) C) QD := by
  refine w_neP rfl rfl rfl rfl (fun a e => by cases e) ?_
  have : PyData.eqv (.bool a) (.bool b) = decide (a = b) := by cases a <;> cases b <;> decide
  rwa [this]
theorem w_ixL {ds : List D} {i : Int} {d : D} (e : atI ds i = some d) (h : QD d C) : W (gIx (.lst ds) (.int i) C) QD := by
  refine W.of (a := d) (C := C) ?_ h
  show (match (some ds).bind (fun ds => atI ds i) with
      | some d => R.ok (d, C)
      | none => .no) = _
  rw [Option.bind_some, e]
theorem w_ixT {ds : List D} {i : Int} {d : D} (e : atI ds i = some d) (h : QD d C) : W (gIx (.tup ds) (.int i) C) QD := by
  refine W.of (a := d) (C := C) ?_ h
  show (match (some ds).bind (fun ds => atI ds i) with
      | some d => R.ok (d, C)
      | none => .no) = _
  rw [Option.bind_some, e]
theorem w_ixC {k : Nat} {ds : List D} {i : Int} {d : D} (hk : C[k]? = some (.lst ds)) (e : atI ds i = some d) (h : QD d C) : W (gIx (.cell k) (.int i) C) QD := by
  refine W.of (a := d) (C := C) ?_ h
  show (match (lstAt C k).bind (fun ds => atI ds i) with
      | some d => R.ok (d, C)
      | none => .no) = _
  rw [lstAt_lst hk, Option.bind_some, e]
theorem w_set {k n : Nat} {ds : List D} {i : Int} {d : D} {Q : Unit → Store → Prop} (hk : C[k]? = some (.lst ds)) (e : ixN ds.length i = some n) (h : Q () (C.set k (.lst (ds.set n d)))) : W (gSet (.cell k) (.int i) d C) Q := by
  refine W.of (a := ()) (C := C.set k (.lst (ds.set n d))) ?_ h
  show (match (mutAt C k).map (fun ds => (k, ds)), some i with
    | some (k, xs), some j => match ixN xs.length j with
      | some n => R.ok ((), C.set k (.lst (xs.set n d)))
      | none => .no
    | _, _ => .no) = _
  rw [mutAt_lst hk]
  simp only [Option.map_some, e]
theorem w_append {k : Nat} {ds : List D} {d : D} (hk : C[k]? = some (.lst ds)) (hl : ds.length < sizeLine) (h : QD .non (C.set k (.lst (ds ++ [d])))) : W (gAppend (.cell k) [d] C) QD := by
  refine W.of (a := .non) (C := C.set k (.lst (ds ++ [d]))) ?_ h
  show (match (mutAt C k).map (fun ds => (k, ds)), [d] with
    | some (i, xs), [y] => if xs.length < sizeLine then R.ok (D.non, C.set i (.lst (xs ++ [y]))) else .no
    | _, _ => .no) = _
  rw [mutAt_lst hk]
  simp only [Option.map_some, if_pos hl]
theorem w_chkC {k : Nat} {ds : List D} (hk : C[k]? = some (.lst ds)) : isL C (.cell k) = true := by
  unfold isL
  show (lstAt C k).isSome = true
  rw [lstAt_lst hk]
  rfl
theorem w_lenL {ds : List D} (h : QD (.int ds.length) C) : W (on1 gLen [.lst ds] C) QD := W.ok h
theorem w_lenT {ds : List D} (h : QD (.int ds.length) C) : W (on1 gLen [.tup ds] C) QD := W.ok h
theorem w_lenC {k : Nat} {ds : List D} (hk : C[k]? = some (.lst ds)) (h : QD (.int ds.length) C) : W (on1 gLen [.cell k] C) QD := by
  refine W.of (a := .int ds.length) (C := C) ?_ h
  show (match lstAt C k with
    | some ds => R.ok (D.int ds.length, C)
    | none => .no) = _
  rw [lstAt_lst hk]
theorem w_max2 {i j : Int} (h : QD (.int (max i j)) C) : W (on2 gMax2 [.int i, .int j] C) QD := W.ok h
theorem w_min2 {i j : Int} (h : QD (.int (min i j)) C) : W (on2 gMin2 [.int i, .int j] C) QD := W.ok h
theorem w_intI {i : Int} (h : QD (.int i) C) : W (on1 gInt [.int i] C) QD := W.ok h
theorem w_intB {b : Bool} (h : QD (.int (if b then 1 else 0)) C) : W (on1 gInt [.bl b] C) QD := W.ok h
theorem w_rg {c : Bool} {i j : Int} (hl : (lowI i && lowI j) = true) (h : W (newL c (rangeD i j) C) QD) : W (gRg c (.int i) (.int j) C) QD := by
  show W (if (lowI i && lowI j) = true then newL c (rangeD i j) C else .no) QD
  rw [if_pos hl]
  exact h
/-! a def -/
theorem w_run {n : Nat} {ds : List D} (h : WS (u (ds.map some ++ List.replicate (n - ds.length) none) C) fun f _ C' => match f with
    | .nx => W (fin C .non C') QD
    | .rt d => W (fin C d C') QD
    | _ => False) : W (runD n u ds C) QD := WS.bind (h.imp fun f sl C' h => by
  cases f with
  | nx => exact h
  | rt d => exact h
  | bk => exact h.elim
  | ct => exact h.elim)
end
end Nv

namespace Nv
open PySem PySem.Spec PyProof.Rows L2
/-! more steps -/
section
variable {S S2 : Type} {Q : S → Store → Prop} {QD : D → Store → Prop} {QB : Bool → Store → Prop} {QL : List D → Store → Prop} {QS : Fl → Sl → Store → Prop} {sl : Sl} {C C1 C2 : Store} {m ma mb mc : ME} {t ta tb : MG Bool} {mas : MG (List D)} {u u1 u2 : MS}
theorem ite_t {A B : Prop} {b : Bool} (e : b = true) (h : A) : if b = true then A else B := by rw [if_pos e]; exact h
theorem ite_f {A B : Prop} {b : Bool} (e : b = false) (h : B) : if b = true then A else B := by rw [if_neg (by rw [e]; decide)]; exact h
theorem bl_b {b : Bool} {P : Bool → Prop} (h : P b) : ∃ b', D.bl b = .bl b' ∧ P b' := ⟨b, rfl, h⟩
theorem int_i {i : Int} {P : Int → Prop} (h : P i) : ∃ i', D.int i = .int i' ∧ P i' := ⟨i, rfl, h⟩
theorem par_2 {x y : D} {P : D → D → Prop} (h : P x y) : ∃ x' y', [x, y] = [x', y'] ∧ P x' y' := ⟨x, y, rfl, h⟩
theorem fin_set1 {k : Nat} {c : Cell} {d : D} (hc : closedC C.length c = true) (hf : flatR d = true) (hd : closedD 0 d = true) (h : QD d (C.set k c)) : W (fin C d (C.set k c)) QD := by
  by_cases hk : k < C.length
  · refine W.of (fin_val (fin_cond (k := k) (Upd.set k C c) (.inl ⟨List.getElem?_set_self hk, hc⟩)) hf (closedD_mono (Nat.zero_le _) d hd)) ?_
    rw [show C.length = (C.set k c).length by simp, List.take_length]
    exact h
  · refine W.of (fin_val (fin_cond (k := k) (c := c) (Upd.set k C c) (.inr (Nat.le_of_not_lt hk))) hf (closedD_mono (Nat.zero_le _) d hd)) ?_
    rw [show C.length = (C.set k c).length by simp, List.take_length]
    exact h
theorem fin_same {d : D} (hf : flatR d = true) (hd : closedD 0 d = true) (h : QD d C) : W (fin C d C) QD := W.of (fin_pure0 hf hd) h
end
end Nv

namespace Nv
open PySem PySem.Spec PyProof.Rows L2
section
variable {QD : D → Store → Prop} {QS : Fl → Sl → Store → Prop} {QK : Wk → Store → Prop} {sl : Sl} {C : Store} {m : ME} {t : MG Bool} {mas : MG (List D)} {u : MS} {g : MT} {gd : Gd} {ds : List D} {c : Bool} {own : List Nat} {mi : MI}
def forQ (P : Sl → Store → Prop) (QS : Fl → Sl → Store → Prop) : Fl → Sl → Store → Prop := fun f sl C => match f with
  | .nx => P sl C
  | .ct => P sl C
  | .bk => QS .nx sl C
  | .rt d => QS (.rt d) sl C
theorem w_forM (Inv : Nat → Sl → Store → Prop) (hg : ∀ i sl C, Inv i sl C → okG gd C)
    (step : ∀ i d sl C, ds[i]? = some d → Inv i sl C → W (g d sl C) fun sl1 C1 => WS (u sl1 C1) (forQ (Inv (i + 1)) QS))
    (hend : ∀ sl C, Inv ds.length sl C → QS .nx sl C) (h0 : Inv 0 sl C) : WS (forM g u gd ds sl C) QS := by
  suffices h : ∀ (n : Nat) (es : List D) sl C, es = ds.drop n → n ≤ ds.length → Inv n sl C → WS (forM g u gd es sl C) QS from h 0 ds sl C rfl (Nat.zero_le _) h0
  intro n es
  induction es generalizing n with
  | nil =>
    intro sl C e hn hi
    have : n = ds.length := by
      have := congrArg List.length e
      simp at this
      omega
    subst this
    unfold forM
    rw [if_pos (hg _ _ _ hi)]
    exact WS.ok (hend _ _ hi)
  | cons d es ih =>
    intro sl C e hn hi
    have hd : ds[n]? = some d := by
      have := congrArg (fun l => l[0]?) e
      simp at this
      exact this.symm
    have hn2 : n < ds.length := (List.getElem?_eq_some_iff.mp hd).1
    have he : es = ds.drop (n + 1) := by
      have := congrArg List.tail e
      simpa using this
    unfold forM
    rw [if_pos (hg _ _ _ hi)]
    refine W.bindS ((step n d sl C hd hi).imp fun sl1 C1 h => WS.bindS (h.imp fun f sl2 C2 h => ?_))
    cases f with
    | nx => exact ih (n + 1) sl2 C2 he hn2 h
    | ct => exact ih (n + 1) sl2 C2 he hn2 h
    | bk => exact WS.ok h
    | rt d => exact WS.ok h
theorem w_sFor (h : W (mi sl C) fun k C1 => WS (forM g u k.2 k.1 sl C1) QS) : WS (sFor mi g u sl C) QS := W.bindS (h.imp fun _ _ h => h)
theorem w_iLst (h : W (m sl C) fun x C1 => ∃ k, lstG C1 x = some k ∧ QK k C1) : W (iLst m sl C) QK := W.bind (h.imp fun x C1 h => by
  obtain ⟨k, e, h⟩ := h
  simp only [e]
  exact W.ok h)
theorem w_iRg1 (h : W (mas sl C) fun xs C1 => ∃ j, xs = [.int j] ∧ lowI j = true ∧ QK (rgD 0 j, []) C1) : W (iRg1 mas sl C) QK := W.bind (h.imp fun x C1 h => by
  obtain ⟨j, rfl, e, h⟩ := h
  simp only [e, if_true]
  exact W.ok h)
theorem w_iEn (h : W (mas sl C) fun xs C1 => ∃ x, xs = [x] ∧ ∃ k, lstG C1 x = some k ∧ QK (enumD 0 k.1, k.2) C1) : W (iEn mas sl C) QK := W.bind (h.imp fun x C1 h => by
  obtain ⟨x, rfl, k, e, h⟩ := h
  simp only [e]
  exact W.ok h)
theorem w_iZp (h : W (mas sl C) fun xs C1 => ∃ x y, xs = [x, y] ∧ ∃ k, lstG C1 x = some k ∧ ∃ l, lstG C1 y = some l ∧ QK (pairs k.1 l.1, k.2 ++ l.2) C1) : W (iZp mas sl C) QK := W.bind (h.imp fun x C1 h => by
  obtain ⟨x, y, rfl, k, e, l, e2, h⟩ := h
  simp only [e, e2]
  exact W.ok h)
theorem w_iTp (h : W (m sl C) fun x C1 => ∃ ds, x = .tup ds ∧ QK (ds, []) C1) : W (iTp m sl C) QK := W.bind (h.imp fun x C1 h => by
  obtain ⟨ds, rfl, h⟩ := h
  exact W.ok h)
theorem tup_t {ds : List D} {P : List D → Prop} (h : P ds) : ∃ ds', D.tup ds = .tup ds' ∧ P ds' := ⟨ds, rfl, h⟩
theorem lstG_l {ds : List D} {P : Wk → Prop} (h : P (ds, [])) : ∃ k, lstG C (.lst ds) = some k ∧ P k := ⟨_, rfl, h⟩
theorem lstG_c {k : Nat} {ds : List D} {P : Wk → Prop} (hk : C[k]? = some (.lst ds)) (h : P (ds, [(k, ds)])) : ∃ k', lstG C (.cell k) = some k' ∧ P k' := ⟨(ds, [(k, ds)]), by unfold lstG; simp only [hk], h⟩
theorem one_1 {x : D} {P : D → Prop} (h : P x) : ∃ x', [x] = [x'] ∧ P x' := ⟨x, rfl, h⟩
theorem one_i {i : Int} {P : Int → Prop} (h : P i) : ∃ i', [D.int i] = [.int i'] ∧ P i' := ⟨i, rfl, h⟩
theorem le0 : ([] : List D).length ≤ sizeLine := by simp [sizeLine]
theorem le1 {a0 : D} : [a0].length ≤ sizeLine := by simp [sizeLine]
theorem le2 {a0 a1 : D} : [a0, a1].length ≤ sizeLine := by simp [sizeLine]
theorem le3 {a0 a1 a2 : D} : [a0, a1, a2].length ≤ sizeLine := by simp [sizeLine]
theorem le4 {a0 a1 a2 a3 : D} : [a0, a1, a2, a3].length ≤ sizeLine := by simp [sizeLine]
theorem le5 {a0 a1 a2 a3 a4 : D} : [a0, a1, a2, a3, a4].length ≤ sizeLine := by simp [sizeLine]
theorem le6 {a0 a1 a2 a3 a4 a5 : D} : [a0, a1, a2, a3, a4, a5].length ≤ sizeLine := by simp [sizeLine]
theorem le7 {a0 a1 a2 a3 a4 a5 a6 : D} : [a0, a1, a2, a3, a4, a5, a6].length ≤ sizeLine := by simp [sizeLine]
theorem le8 {a0 a1 a2 a3 a4 a5 a6 a7 : D} : [a0, a1, a2, a3, a4, a5, a6, a7].length ≤ sizeLine := by simp [sizeLine]
theorem len_and {l : List D} {n : Nat} {P : Prop} (h : l.length = n) (p : P) : l.length = n ∧ P := ⟨h, p⟩
theorem le_and {l : List D} {n : Nat} {P : Prop} (h : l.length ≤ n) (p : P) : l.length ≤ n ∧ P := ⟨h, p⟩
theorem low_and {i : Int} {P : Prop} (h : lowI i = true) (p : P) : lowI i = true ∧ P := ⟨h, p⟩
theorem isL_and {x : D} {P : Prop} (h : isL C x = true) (p : P) : isL C x = true ∧ P := ⟨h, p⟩
theorem isS_and {x : D} {P : Prop} (h : isS C x = true) (p : P) : isS C x = true ∧ P := ⟨h, p⟩
theorem W.calm {S : Type} {Q : S → Store → Prop} {o : R (S × Store)} (h : W o Q) : W (R.calm o) Q := by
  obtain ⟨a, C, rfl, q⟩ := h
  exact ⟨a, C, rfl, q⟩
theorem w_lcM {Q : List D → Store → Prop} (Inv : Nat → List D → Store → Prop) (hg : ∀ i acc C, Inv i acc C → okG gd C)
    (step : ∀ i d acc C, ds[i]? = some d → Inv i acc C → W (g d sl C) fun sl1 C1 => W (t sl1 C1) fun b C2 => if b = true then W (m sl1 C2) fun e C3 => Inv (i + 1) (acc ++ [e]) C3 else Inv (i + 1) acc C2)
    (hend : ∀ zs C, Inv ds.length zs C → Q zs C) (h0 : Inv 0 [] C) : W (lcM g t m gd sl ds C) Q := by
  suffices h : ∀ (n : Nat) (es acc : List D) C, es = ds.drop n → n ≤ ds.length → Inv n acc C → W (lcM g t m gd sl es C) fun zs C' => Q (acc ++ zs) C' by
    have := h 0 ds [] C rfl (Nat.zero_le _) h0
    simpa using this
  intro n es
  induction es generalizing n with
  | nil =>
    intro acc C e hn hi
    have : n = ds.length := by
      have := congrArg List.length e
      simp at this
      omega
    subst this
    unfold lcM
    rw [if_pos (hg _ _ _ hi)]
    refine W.ok ?_
    rw [List.append_nil]
    exact hend _ _ hi
  | cons d es ih =>
    intro acc C e hn hi
    have hd : ds[n]? = some d := by
      have := congrArg (fun l => l[0]?) e
      simp at this
      exact this.symm
    have hn2 : n < ds.length := (List.getElem?_eq_some_iff.mp hd).1
    have he : es = ds.drop (n + 1) := by
      have := congrArg List.tail e
      simpa using this
    unfold lcM
    rw [if_pos (hg _ _ _ hi)]
    refine W.bind ((step n d acc C hd hi).imp fun sl1 C1 h => W.bind (h.imp fun b C2 h => ?_))
    cases b with
    | false => exact ih (n + 1) acc C2 he hn2 h
    | true =>
      refine W.bind (W.imp h fun e C3 h => W.bind ((ih (n + 1) (acc ++ [e]) C3 he hn2 h).imp fun zs C4 h => W.ok ?_))
      simpa using h
theorem w_mLc (h : W (mi sl C) fun k C1 => k.1.length ≤ sizeLine ∧ W (lcM g t m k.2 (wipeS sl own) k.1 C1) fun zs C2 => W (newL c zs C2) QD) : W (mLc c own mi g t m sl C) QD := W.bind (h.imp fun k C1 h => by
  simp only [if_pos h.1]
  exact W.bind (W.calm h.2))
theorem w_tTrue {QB : Bool → Store → Prop} (h : QB true C) : W (tTrue sl C) QB := W.ok h
/-- a comprehension that maps, with no store in play -/
theorem w_lcMap {Q : List D → Store → Prop} {f : Nat → D → D} (step : ∀ i d, ds[i]? = some d → W (g d sl C) fun sl1 C1 => W (m sl1 C1) fun e C3 => e = f i d ∧ C3 = C) (q : Q (ds.mapIdx f) C) : W (lcM g tTrue m [] sl ds C) Q := by
  refine w_lcM (fun i acc C' => C' = C ∧ acc = (ds.take i).mapIdx f) (fun _ _ _ _ => okG_nil _) (fun i d acc C' hd h => ?_) (fun zs C' h => ?_) ⟨rfl, rfl⟩
  · obtain ⟨rfl, rfl⟩ := h
    refine (step i d hd).imp fun sl1 C1 h => w_tTrue ?_
    rw [if_pos rfl]
    refine h.imp fun e C3 h => ?_
    obtain ⟨rfl, rfl⟩ := h
    refine ⟨rfl, ?_⟩
    have hl := (List.getElem?_eq_some_iff.mp hd).1
    rw [List.take_succ, hd]
    simp [List.mapIdx_append, Nat.min_eq_left (Nat.le_of_lt hl)]
  · obtain ⟨rfl, rfl⟩ := h
    rwa [List.take_length]
theorem rgD_get {n i : Nat} {d : D} (h : (rgD 0 n)[i]? = some d) : i < n ∧ d = .int i := by
  unfold rgD at h
  rw [List.getElem?_map, Option.map_eq_some_iff] at h
  obtain ⟨a, h1, rfl⟩ := h
  rw [List.getElem?_eq_some_iff] at h1
  obtain ⟨h2, h3⟩ := h1
  rw [List.getElem_range] at h3
  rw [List.length_range] at h2
  subst h3
  exact ⟨by omega, by simp⟩
theorem rgD_len (n : Nat) : (rgD 0 n).length = n := by simp [rgD]
theorem ixN_int {i : Int} {m : Nat} (h0 : 0 ≤ i) (h : i < m) : ixN m i = some i.toNat := by
  unfold ixN
  rw [if_pos h0, if_pos h]
theorem ixN_nat {n m : Nat} (h : n < m) : ixN m (n : Int) = some n := by
  rw [ixN_int (by omega) (by omega)]
  simp
theorem atI_nat {ds : List D} {n : Nat} {d : D} (h : ds[n]? = some d) : atI ds (n : Int) = some d := by
  have hl := (List.getElem?_eq_some_iff.mp h).1
  unfold atI
  rw [ixN_nat hl, Option.bind_some, h]
theorem cl_nil {n : Nat} : ∀ c ∈ ([] : Store), closedC n c = true := fun c h => nomatch h
theorem cl_cons {n : Nat} {c : Cell} {C : Store} (h : closedC n c = true) (t : ∀ c ∈ C, closedC n c = true) : ∀ d ∈ c :: C, closedC n d = true := fun d hd => by
  rcases List.mem_cons.mp hd with rfl | hd
  · exact h
  · exact t d hd
theorem app_cond {C1 X : Store} (hl : C1.length = C.length) (hc : ∀ c ∈ C1, closedC C.length c = true) : C.length ≤ (C1 ++ X).length ∧ ∀ (i : Nat), i < C.length → (C1 ++ X)[i]? = C[i]? ∨ ∃ c, (C1 ++ X)[i]? = some c ∧ closedC C.length c = true := ⟨by simp; omega, fun i hi => by
    have h1 : i < C1.length := by omega
    exact .inr ⟨C1[i], by rw [List.getElem?_append_left h1, List.getElem?_eq_getElem h1], hc _ (List.getElem_mem h1)⟩⟩
theorem app_take {C1 X : Store} (hl : C1.length = C.length) : (C1 ++ X).take C.length = C1 := by rw [← hl, List.take_left]
theorem fin_fz {C1 X : Store} {d : D} (hl : C1.length = C.length) (hc : ∀ c ∈ C1, closedC C.length c = true) (hf : ∀ a b, d ≠ .tup [.cell a, .cell b]) (hd : closedD 0 d = true) (h : QD d C1) : W (fin C d (C1 ++ X)) QD := by
  refine W.of (a := d) (C := C1) ?_ h
  unfold fin
  rw [if_pos (app_cond hl hc)]
  split
  · simp [closedD] at hd
  · rename_i a b
    exact absurd rfl (hf a b)
  · rw [if_pos (closedD_mono (Nat.zero_le _) d hd), app_take hl]
theorem w_fz2 {n : Nat} (h : W (m sl C) fun d C1 => ∃ (xs ys : List D) (C' : Store), d = .tup [.cell C.length, .cell (C.length + 1)] ∧ C1 = C' ++ [.lst xs, .lst ys] ∧ C'.length = C.length ∧ (∀ c ∈ C', closedC C.length c = true) ∧ closedDs 0 xs = true ∧ closedDs 0 ys = true ∧ QD (.tup [.lst xs, .lst ys]) C') : W (mFz (n + 2) m sl C) QD := by
  refine W.bind (h.imp fun d C1 h => ?_)
  obtain ⟨xs, ys, C', rfl, rfl, hl, hc, h1, h2, q⟩ := h
  have e1 : (C' ++ [Cell.lst xs, Cell.lst ys])[C.length]? = some (.lst xs) := by rw [← hl]; simp
  have e2 : (C' ++ [Cell.lst xs, Cell.lst ys]).set C.length (.fz xs) = C' ++ [.fz xs, .lst ys] := by rw [← hl]; simp
  have e3 : (C' ++ [Cell.fz xs, Cell.lst ys])[C.length + 1]? = some (.lst ys) := by rw [← hl, List.getElem?_append_right (by omega)]; simp
  have e4 : (C' ++ [Cell.fz xs, Cell.lst ys]).set (C.length + 1) (.fz ys) = C' ++ [.fz xs, .fz ys] := by rw [← hl, List.set_append_right _ _ (by omega)]; simp
  have f1 : frz (n + 1) (.cell C.length) (C' ++ [Cell.lst xs, Cell.lst ys]) = some (.lst xs, C' ++ [.fz xs, .lst ys]) := by
    unfold frz
    simp only [e1, e2]
    rw [frzL_id _ xs fun x hx => frz_id n _ x (closed_mem h1 hx)]
    rfl
  have f2 : frz (n + 1) (.cell (C.length + 1)) (C' ++ [Cell.fz xs, Cell.lst ys]) = some (.lst ys, C' ++ [.fz xs, .fz ys]) := by
    unfold frz
    simp only [e3, e4]
    rw [frzL_id _ ys fun x hx => frz_id n _ x (closed_mem h2 hx)]
    rfl
  have f3 : frz (n + 2) (.tup [.cell C.length, .cell (C.length + 1)]) (C' ++ [Cell.lst xs, Cell.lst ys]) = some (.tup [.lst xs, .lst ys], C' ++ [.fz xs, .fz ys]) := by
    show (frzL (frz (n + 1)) _ _).bind _ = _
    unfold frzL
    rw [f1, Option.bind_some]
    unfold frzL
    rw [f2, Option.bind_some]
    rfl
  simp only [f3]
  refine fin_fz hl hc (fun a b e => by cases e) ?_ q
  show (closedDs 0 xs && (closedDs 0 ys && true)) = true
  rw [h1, h2]
  rfl
theorem w_ite {A B : Prop} {b : Bool} (h1 : b = true → A) (h2 : b = false → B) : if b = true then A else B := by
  cases b with
  | true => exact h1 rfl
  | false => exact h2 rfl
theorem setI_map (l : List Int) (n : Nat) (x : Int) : (l.map D.int).set n (.int x) = (l.set n x).map D.int := by simp
/-! kinds, sums, equal values -/
theorem w_isiT {T t : String} {x : D} (ht : tyC C x = some t) (hb : isB t T = true) (q : QD (.bl true) C) : W (gIsi T x C) QD := by
  refine W.of (a := .bl true) (C := C) ?_ q
  unfold gIsi
  rw [ht]
  simp only [hb]
theorem w_isiF {T t : String} {x : D} (ht : tyC C x = some t) (hb : isB t T = false) (q : QD (.bl false) C) : W (gIsi T x C) QD := by
  refine W.of (a := .bl false) (C := C) ?_ q
  unfold gIsi
  rw [ht]
  simp only [hb]
theorem w_isiLT {T : List String} {t : String} {x : D} (ht : tyC C x = some t) (hb : T.any (isB t) = true) (q : QD (.bl true) C) : W (gIsiL T x C) QD := by
  refine W.of (a := .bl true) (C := C) ?_ q
  unfold gIsiL
  rw [ht]
  simp only [hb]
theorem w_isiLF {T : List String} {t : String} {x : D} (ht : tyC C x = some t) (hb : T.any (isB t) = false) (q : QD (.bl false) C) : W (gIsiL T x C) QD := by
  refine W.of (a := .bl false) (C := C) ?_ q
  unfold gIsiL
  rw [ht]
  simp only [hb]
theorem w_all {bs : List Bool} (q : QD (.bl (bs.all id)) C) : W (on1 gAll [.lst (bs.map D.bl)] C) QD := by
  refine W.of (a := .bl (bs.all id)) (C := C) ?_ q
  show (match (some (bs.map D.bl)).bind blsOf with
    | some bs => R.ok (D.bl (bs.all id), C)
    | none => .no) = _
  rw [Option.bind_some, blsOf_map]
theorem toPs_int (C : Store) : ∀ l : List Int, toPs C (l.map D.int) = some (l.map PyData.int)
  | [] => rfl
  | x :: l => by
    show (match toP C (.int x), toPs C (l.map D.int) with
      | some p, some ps => some (p :: ps)
      | _, _ => none) = _
    rw [toPs_int C l]
    rfl
theorem toP_ints (C : Store) (l : List Int) : toP C (.lst (l.map D.int)) = some (.list (l.map PyData.int)) := by
  show (toPs C (l.map D.int)).map PyData.list = _
  rw [toPs_int]
  rfl
theorem depth_ints : ∀ l : List Int, PyData.depthAll (l.map PyData.int) = 0
  | [] => rfl
  | x :: l => by
    show max 0 (PyData.depthAll (l.map PyData.int)) = 0
    rw [depth_ints l]
    rfl
theorem lay_ints : ∀ l : List Int, PyData.canLayAll0 (l.map PyData.int) = true
  | [] => rfl
  | x :: l => by
    show (true && PyData.canLayAll0 (l.map PyData.int)) = true
    rw [lay_ints l]
    rfl
theorem shaped_ints (l : List Int) : SeqAt.shaped (.list (l.map PyData.int)) = true := by
  show (PyData.canLayAll0 (l.map PyData.int) && decide (PyData.depthAll (l.map PyData.int) + 1 ≤ 64)) = true
  rw [lay_ints, depth_ints]
  rfl
theorem eqvAll_ints : ∀ l m : List Int, PyData.eqvAll (l.map PyData.int) (m.map PyData.int) = decide (l = m)
  | [], [] => rfl
  | [], _ :: _ => rfl
  | _ :: _, [] => rfl
  | x :: l, y :: m => by
    show ((x == y) && PyData.eqvAll (l.map PyData.int) (m.map PyData.int)) = _
    rw [eqvAll_ints l m, Bool.eq_iff_iff]
    simp
theorem w_eqLI {l m : List Int} (q : QD (.bl (decide (l = m))) C) : W (gEq (.lst (l.map D.int)) (.lst (m.map D.int)) C) QD := by
  refine w_eqP (toP_ints _ _) (toP_ints _ _) (shaped_ints _) (shaped_ints _) (fun a e => by cases e) ?_
  show QD (.bl (PyData.eqvAll _ _)) C
  rwa [eqvAll_ints]
theorem w_neLI {l m : List Int} (q : QD (.bl (!decide (l = m))) C) : W (gNe (.lst (l.map D.int)) (.lst (m.map D.int)) C) QD := by
  refine w_neP (toP_ints _ _) (toP_ints _ _) (shaped_ints _) (shaped_ints _) (fun a e => by cases e) ?_
  show QD (.bl (!PyData.eqvAll _ _)) C
  rwa [eqvAll_ints]
theorem w_inS {neg : Bool} {x : Str} {l : List Str} (q : QD (.bl (if neg then !(l.any fun y => y == x) else l.any fun y => y == x)) C) : W (gIn neg (.str x) (.lst (l.map D.str)) C) QD := by
  refine W.of (a := .bl _) (C := C) ?_ q
  have h1 : (l.map D.str).all flatD = true := by simp [flatD]
  have h2 : inF (.str x) (l.map D.str) = l.any fun y => y == x := by
    unfold inF
    rw [List.any_map]
    rfl
  show (if (flatD (.str x) && (l.map D.str).all flatD) = true then R.ok (D.bl (if neg then !inF (.str x) (l.map D.str) else inF (.str x) (l.map D.str)), C) else .no) = _
  rw [h1, h2]
  rfl
/-! comprehensions over literals and ranges -/
theorem w_lcNil {Q : List D → Store → Prop} (h : Q [] C) : W (lcM g t m [] sl [] C) Q := by
  unfold lcM
  rw [if_pos (okG_nil _)]
  exact W.ok h
theorem w_lcCons {Q : List D → Store → Prop} {d : D} (h : W (g d sl C) fun sl1 C1 => W (t sl1 C1) fun b C2 => if b = true then W (m sl1 C2) fun e C3 => W (lcM g t m [] sl ds C3) fun zs C4 => Q (e :: zs) C4 else W (lcM g t m [] sl ds C2) Q) : W (lcM g t m [] sl (d :: ds) C) Q := by
  unfold lcM
  rw [if_pos (okG_nil _)]
  refine W.bind (h.imp fun sl1 C1 h => W.bind (h.imp fun b C2 h => ?_))
  cases b with
  | false => exact h
  | true => exact W.bind (W.imp h fun e C3 h => W.bind (h.imp fun zs C4 h => W.ok h))
theorem mapIdx_const {A B : Type} (b : B) (l : List A) : (l.mapIdx fun _ _ => b) = List.replicate l.length b := by
  apply List.ext_getElem
  · simp
  · intro i h1 h2
    simp
theorem w_lcTrue {Q : List D → Store → Prop} (step : ∀ (i : Nat) (d : D), ds[i]? = some d → W (g d sl C) fun sl1 C1 => W (m sl1 C1) fun e C3 => e = .bl true ∧ C3 = C) (q : Q ((List.replicate ds.length true).map D.bl) C) : W (lcM g tTrue m [] sl ds C) Q := by
  refine w_lcMap (f := fun _ _ => .bl true) step ?_
  rw [mapIdx_const]
  rwa [List.map_replicate] at q
theorem w_lcRg {Q : List D → Store → Prop} {n : Nat} {f : Nat → D} (step : ∀ i : Nat, i < n → W (g (.int i) sl C) fun sl1 C1 => W (m sl1 C1) fun e C3 => e = f i ∧ C3 = C) (q : Q ((List.range n).map f) C) : W (lcM g tTrue m [] sl (rgD 0 n) C) Q := by
  refine w_lcMap (f := fun i _ => f i) (fun i d hd => ?_) ?_
  · obtain ⟨h, rfl⟩ := rgD_get hd
    exact step i h
  · have e : ((rgD 0 n).mapIdx fun i _ => f i) = (List.range n).map f := by
      apply List.ext_getElem
      · simp [rgD_len]
      · intro i h1 h2
        simp
    rwa [e]
theorem all_true (n : Nat) : (List.replicate n true).all id = true := by simp
theorem w_lcIx {Q : List D → Store → Prop} {p : Nat → Bool} {f : Nat → D} (step : ∀ (i : Nat) (d : D), ds[i]? = some d → W (g d sl C) fun sl1 C1 => W (t sl1 C1) fun b C2 => b = p i ∧ C2 = C ∧ (p i = true → W (m sl1 C) fun e C3 => e = f i ∧ C3 = C)) (q : Q (((List.range ds.length).filter p).map f) C) : W (lcM g t m [] sl ds C) Q := by
  refine w_lcM (fun i acc C' => C' = C ∧ acc = ((List.range i).filter p).map f) (fun _ _ _ _ => okG_nil _) (fun i d acc C' hd h => ?_) (fun zs C' h => ?_) ⟨rfl, rfl⟩
  · obtain ⟨rfl, rfl⟩ := h
    refine (step i d hd).imp fun sl1 C1 h => h.imp fun b C2 h => ?_
    obtain ⟨rfl, rfl, h⟩ := h
    rw [List.range_succ, List.filter_append, List.map_append]
    by_cases hp : p i = true
    · rw [if_pos hp]
      refine (h hp).imp fun e C3 h => ?_
      obtain ⟨rfl, rfl⟩ := h
      exact ⟨rfl, by simp [hp]⟩
    · rw [if_neg hp]
      exact ⟨rfl, by simp [hp]⟩
  · obtain ⟨rfl, rfl⟩ := h
    exact q
theorem w_lcMapIx {Q : List D → Store → Prop} {f : Nat → D} (step : ∀ (i : Nat) (d : D), ds[i]? = some d → W (g d sl C) fun sl1 C1 => W (m sl1 C1) fun e C3 => e = f i ∧ C3 = C) (q : Q ((List.range ds.length).map f) C) : W (lcM g tTrue m [] sl ds C) Q := by
  refine w_lcMap (f := fun i _ => f i) step ?_
  have e : (ds.mapIdx fun i _ => f i) = (List.range ds.length).map f := by
    apply List.ext_getElem
    · simp
    · intro i h1 h2
      simp
  rwa [e]
theorem pairsLen (xs ys : List D) : (pairs xs ys).length = min xs.length ys.length := by simp [pairs]
theorem enumGet {xs : List D} {i : Nat} {d : D} (h : (enumD 0 xs)[i]? = some d) : ∃ a, d = .tup [.int i, a] ∧ xs[i]? = some a := by
  rw [enumD_get] at h
  rw [Option.map_eq_some_iff] at h
  obtain ⟨a, h, rfl⟩ := h
  exact ⟨a, by simp, h⟩
/-- a list that stands in a cell or is frozen -/
inductive IsLst (C : Store) : D → List D → Prop where
  | f (ds : List D) : IsLst C (.lst ds) ds
  | c (k : Nat) (ds : List D) (h : C[k]? = some (.lst ds)) : IsLst C (.cell k) ds
theorem IsLst.ty {x : D} {ds : List D} (h : IsLst C x ds) : tyC C x = some "list" := by
  cases h with
  | f => rfl
  | c k ds h => unfold tyC; simp only [h]
theorem IsLst.len {x : D} {ds : List D} (h : IsLst C x ds) (q : QD (.int ds.length) C) : W (on1 gLen [x] C) QD := by
  cases h with
  | f => exact w_lenL q
  | c k ds h => exact w_lenC h q
theorem IsLst.it {x : D} {ds : List D} (h : IsLst C x ds) : ∃ g, lstG C x = some (ds, g) ∧ okG g C := by
  cases h with
  | f => exact ⟨[], rfl, okG_nil _⟩
  | c k ds h => exact ⟨[(k, ds)], by unfold lstG; simp only [h], fun p hp => by cases List.mem_singleton.mp hp; exact h⟩
theorem okG.app {g1 g2 : Gd} (h1 : okG g1 C) (h2 : okG g2 C) : okG (g1 ++ g2) C := fun p hp => (List.mem_append.mp hp).elim (h1 p) (h2 p)
/-! repr of small things -/
def smI (i : Int) : Prop := -999999999999 ≤ i ∧ i ≤ 999999999999
theorem short_int {i : Int} (h : smI i) : PyData.intsShort 13 (.int i) = true := by
  simp only [PyData.intsShort, decide_eq_true_eq]
  have h1 := h.1
  have h2 := h.2
  exact PyData.shown_int_le2 (by omega) (by omega)
theorem log_int {i : Int} (h : smI i) : i.natAbs.log2 < 40 := by
  by_cases h0 : i.natAbs = 0
  · rw [h0]; decide
  · rw [Nat.log2_lt h0]
    have := h.1
    have := h.2
    omega
theorem show_ints : ∀ {l : List Int}, (∀ x ∈ l, smI x) → PyData.showableAll (l.map PyData.int) = true
  | [], _ => rfl
  | x :: l, h => by
    show (decide (x.natAbs.log2 < 1920) && PyData.showableAll (l.map PyData.int)) = true
    rw [show_ints fun y hy => h y (List.mem_cons_of_mem _ hy), decide_eq_true (Nat.lt_trans (log_int (h x List.mem_cons_self)) (by decide))]
    rfl
theorem w_isC {x y : D} {b : Bool} (e : gIs x y C = .ok (.bl b, C)) (q : QD (.bl b) C) : W (gIs x y C) QD := W.of e q
theorem w_isNotC {x y : D} {b : Bool} (e : gIsNot x y C = .ok (.bl b, C)) (q : QD (.bl b) C) : W (gIsNot x y C) QD := W.of e q
/-! stores of closed cells -/
def ClS (C : Store) : Prop := ∀ c ∈ C, closedC 0 c = true
theorem closedC_mono {n m : Nat} (h : n ≤ m) (c : Cell) (hc : closedC n c = true) : closedC m c = true := by
  cases c with
  | lst ds => exact closedDs_mono h ds hc
  | dk ds => exact closedDs_mono h _ hc
  | dt ds => exact closedDs_mono h _ hc
  | fz ds => exact closedDs_mono h ds hc
  | dn ds => exact closedDs_mono h _ hc
  | obj c ds => exact closedDs_mono h _ hc
  | lk ds => exact closedDs_mono h _ hc
theorem ClS.at {C : Store} (h : ClS C) (n : Nat) : ∀ c ∈ C, closedC n c = true := fun c hc => closedC_mono (Nat.zero_le _) c (h c hc)
theorem ClS.nil : ClS [] := fun c h => nomatch h
theorem ClS.cons {C : Store} {c : Cell} (h : closedC 0 c = true) (t : ClS C) : ClS (c :: C) := cl_cons h t
theorem ClS.app {C X : Store} (h : ClS C) (t : ClS X) : ClS (C ++ X) := fun c hc => (List.mem_append.mp hc).elim (h c) (t c)
theorem ClS.set {C : Store} {k : Nat} {c : Cell} (h : ClS C) (hc : closedC 0 c = true) : ClS (C.set k c) := fun d hd => by
  rcases List.mem_or_eq_of_mem_set hd with hd | rfl
  · exact h d hd
  · exact hc
theorem ClS.one {c : Cell} (h : closedC 0 c = true) : ClS [c] := cl_cons h cl_nil
theorem w_slL {ds : List D} {c : Bool} {a b : Option Int} (q : W (newL c (cutD ds a b) C) QD) : W (gSl c (.lst ds) a b C) QD := q
/-! targets, reversed slices, counts, whiles -/
theorem w_gmSqT {n : Nat} {gs : List D → Sl → Store → R (Sl × Store)} {Q : Sl → Store → Prop} (hl : ds.length = n) (h : W (gs ds sl C) Q) : W (gmSq n gs (.tup ds) sl C) Q := by
  unfold gmSq tupOf
  simp only [if_pos hl]
  exact h
theorem w_gmSqL {n : Nat} {gs : List D → Sl → Store → R (Sl × Store)} {Q : Sl → Store → Prop} (hl : ds.length = n) (h : W (gs ds sl C) Q) : W (gmSq n gs (.lst ds) sl C) Q := by
  unfold gmSq tupOf lstOf
  simp only [if_pos hl]
  exact h
theorem w_iRg2 (h : W (mas sl C) fun xs C1 => ∃ i j, xs = [.int i, .int j] ∧ (lowI i && lowI j) = true ∧ QK (rgD i j, []) C1) : W (iRg2 mas sl C) QK := W.bind (h.imp fun x C1 h => by
  obtain ⟨i, j, rfl, e, h⟩ := h
  simp only [e, if_true]
  exact W.ok h)
theorem w_iRg3 (h : W (mas sl C) fun xs C1 => ∃ i j, xs = [.int i, .int j, .int (-1)] ∧ (lowI i && lowI j) = true ∧ QK (rgDown i j, []) C1) : W (iRg3 mas sl C) QK := W.bind (h.imp fun x C1 h => by
  obtain ⟨i, j, rfl, e, h⟩ := h
  simp only [e, and_self, if_true]
  exact W.ok h)
end
end Nv

namespace Nv
open PySem PySem.Spec PyProof.Rows L2
/-! stores that end in known cells -/
section
variable {A X : Store} {k i : Nat} {c d : Cell}
theorem at_app : (A ++ X)[A.length + k]? = X[k]? := by rw [List.getElem?_append_right (by omega)]; simp
theorem at_app0 : (A ++ X)[A.length]? = X[0]? := by rw [List.getElem?_append_right (by omega)]; simp
theorem at_lo (h : A[i]? = some c) : (A ++ X)[i]? = some c := by rw [List.getElem?_append_left (List.getElem?_eq_some_iff.mp h).1, h]
theorem set_app : (A ++ X).set (A.length + k) c = A ++ X.set k c := by rw [List.set_append_right _ _ (by omega)]; simp
theorem set_app0 : (A ++ X).set A.length c = A ++ X.set 0 c := by rw [List.set_append_right _ _ (by omega)]; simp
end
section
variable {QD : D → Store → Prop} {QB : Bool → Store → Prop} {QL : List D → Store → Prop} {QS : Fl → Sl → Store → Prop} {QK : Wk → Store → Prop} {sl : Sl} {C A X : Store} {m : ME} {t : MG Bool} {mas : MG (List D)} {u : MS} {g : MT} {gd : Gd} {ds : List D} {c : Bool} {own : List Nat} {mi : MI}
/-! lists that are cells or frozen -/
theorem IsLst.ix {x : D} {i : Int} {d : D} (h : IsLst C x ds) (e : atI ds i = some d) (q : QD d C) : W (gIx x (.int i) C) QD := by
  cases h with
  | f => exact w_ixL e q
  | c k ds h => exact w_ixC h e q
theorem IsLst.app {x : D} (h : IsLst C x ds) : IsLst (C ++ X) x ds := by
  cases h with
  | f => exact .f _
  | c k ds h => exact .c _ _ (at_lo h)
theorem IsLst.isL {x : D} (h : IsLst C x ds) : isL C x = true := by
  cases h with
  | f => rfl
  | c k ds h => exact w_chkC h
theorem IsLst.itA {x : D} (h : IsLst C x ds) : ∃ g, lstG C x = some (ds, g) ∧ ∀ X, okG g (C ++ X) := by
  cases h with
  | f => exact ⟨[], rfl, fun _ => okG_nil _⟩
  | c k ds h => exact ⟨[(k, ds)], by unfold lstG; simp only [h], fun X p hp => by cases List.mem_singleton.mp hp; exact at_lo h⟩
theorem IsLst.list {x : D} (h : IsLst C x ds) (q : W (newL c ds C) QD) : W (on1 (gList c) [x] C) QD := by
  have e : seqOf C x = some ds := by
    cases h with
    | f => rfl
    | c k ds h => exact lstAt_lst h
  show W (match seqOf C x with
    | some ds => newL c ds C
    | none => .no) QD
  rw [e]
  exact q
/-! data alike: lists may be cells -/
inductive Alk (C : Store) : Nat → D → D → Prop
  | int (n : Nat) (i : Int) : Alk C (n + 1) (.int i) (.int i)
  | str (n : Nat) (i : Str) : Alk C (n + 1) (.str i) (.str i)
  | bl (n : Nat) (i : Bool) : Alk C (n + 1) (.bl i) (.bl i)
  | non (n : Nat) : Alk C (n + 1) .non .non
  | lst (n : Nat) (x y : D) (xs ys : List D) (hx : IsLst C x xs) (hy : IsLst C y ys) (hl : xs.length = ys.length) (ll : ys.length ≤ 1000000) (h : ∀ (i : Nat) (a b : D), xs[i]? = some a → ys[i]? = some b → Alk C n a b) : Alk C (n + 1) x y
  | tup (n : Nat) (xs ys : List D) (hl : xs.length = ys.length) (ll : ys.length ≤ 1000000) (h : ∀ (i : Nat) (a b : D), xs[i]? = some a → ys[i]? = some b → Alk C n a b) : Alk C (n + 1) (.tup xs) (.tup ys)
theorem Alk.map {A : Type} {f : A → D} {n : Nat} {x y : D} {l : List A} (h : ∀ a ∈ l, Alk C n (f a) (f a)) (hx : IsLst C x (l.map f)) (hy : IsLst C y (l.map f)) (ll : l.length ≤ 1000000) : Alk C (n + 1) x y := by
  refine .lst _ _ _ _ _ hx hy rfl (by simpa using ll) fun i a b ha hb => ?_
  rw [ha] at hb
  cases hb
  rw [List.getElem?_map, Option.map_eq_some_iff] at ha
  obtain ⟨z, hz, rfl⟩ := ha
  exact h z (List.mem_of_getElem? hz)
theorem Alk.ints {n : Nat} {x y : D} {l : List Int} (hx : IsLst C x (l.map D.int)) (hy : IsLst C y (l.map D.int)) (ll : l.length ≤ 1000000) : Alk C (n + 2) x y := Alk.map (fun a _ => .int _ a) hx hy ll
theorem forall2 {P : D → D → Prop} {a b : D} {xs ys : List D} (h : P a b) (t : ∀ (i : Nat) (a b : D), xs[i]? = some a → ys[i]? = some b → P a b) : ∀ (i : Nat) (x y : D), (a :: xs)[i]? = some x → (b :: ys)[i]? = some y → P x y := by
  intro i x y hx hy
  cases i with
  | zero => cases hx; cases hy; exact h
  | succ i => exact t i x y hx hy
theorem forall0 {P : D → D → Prop} : ∀ (i : Nat) (x y : D), ([] : List D)[i]? = some x → ([] : List D)[i]? = some y → P x y := fun i x y h => nomatch h
theorem Alk.tup2 {n : Nat} {a b a' b' : D} (h1 : Alk C n a a') (h2 : Alk C n b b') : Alk C (n + 1) (.tup [a, b]) (.tup [a', b']) := .tup _ _ _ rfl (by simp) (forall2 h1 (forall2 h2 forall0))
/-! what repr shows -/
structure Shw (x : D) (w dp : Nat) (p : PyData) : Prop where
  to : ∀ C, toP C x = some p
  sh : p.showable = true
  la : p.canLay0 = true
  de : p.depth ≤ dp
  we : p.weight ≤ w
  si : p.intsShort 13 = true
theorem toPs_map {A : Type} {f : A → D} {p : A → PyData} (h : ∀ a C, toP C (f a) = some (p a)) (C : Store) : ∀ l : List A, toPs C (l.map f) = some (l.map p)
  | [] => rfl
  | x :: l => by
    show (match toP C (f x), toPs C (l.map f) with
      | some p, some ps => some (p :: ps)
      | _, _ => none) = _
    rw [h, toPs_map h C l]
    rfl
theorem Shw.int {i : Int} (h : smI i) : Shw (.int i) 41 0 (.int i) where
  to := fun _ => rfl
  sh := by
    have := show_ints (l := [i]) (fun x hx => by cases List.mem_singleton.mp hx; exact h)
    have this : ((PyData.int i).showable && true) = true := this
    rwa [Bool.and_true] at this
  la := rfl
  de := Nat.le_refl _
  we := by
    show (if i == 0 then 0 else i.natAbs.log2 + 1) ≤ 41
    have := log_int h
    split <;> omega
  si := short_int h
theorem depthAll_le {n : Nat} : ∀ {l : List PyData}, (∀ x ∈ l, x.depth ≤ n) → PyData.depthAll l ≤ n
  | [], _ => Nat.zero_le _
  | x :: l, h => by
    show max x.depth (PyData.depthAll l) ≤ n
    exact Nat.max_le.mpr ⟨h x List.mem_cons_self, depthAll_le fun y hy => h y (List.mem_cons_of_mem _ hy)⟩
theorem weightAll_le {n : Nat} : ∀ {l : List PyData}, (∀ x ∈ l, x.weight ≤ n) → PyData.weightAll l ≤ (n + 1) * l.length
  | [], _ => Nat.le_refl _
  | x :: l, h => by
    show x.weight + 1 + PyData.weightAll l ≤ (n + 1) * (l.length + 1)
    have h1 := h x List.mem_cons_self
    have h2 := weightAll_le fun y hy => h y (List.mem_cons_of_mem x hy)
    rw [Nat.mul_succ]
    omega
theorem showAll {l : List PyData} (h : ∀ x ∈ l, x.showable = true) : PyData.showableAll l = true := by
  induction l with
  | nil => rfl
  | cons x l ih =>
    show (x.showable && PyData.showableAll l) = true
    rw [h x List.mem_cons_self, ih fun y hy => h y (List.mem_cons_of_mem _ hy)]
    rfl
theorem layAll {l : List PyData} (h : ∀ x ∈ l, x.canLay0 = true) : PyData.canLayAll0 l = true := by
  induction l with
  | nil => rfl
  | cons x l ih =>
    show (x.canLay0 && PyData.canLayAll0 l) = true
    rw [h x List.mem_cons_self, ih fun y hy => h y (List.mem_cons_of_mem _ hy)]
    rfl
theorem shortAll {l : List PyData} (h : ∀ x ∈ l, x.intsShort 13 = true) : PyData.intsShortAll 13 l = true := by
  induction l with
  | nil => rfl
  | cons x l ih =>
    show (x.intsShort 13 && PyData.intsShortAll 13 l) = true
    rw [h x List.mem_cons_self, ih fun y hy => h y (List.mem_cons_of_mem _ hy)]
    rfl
theorem Shw.map {A : Type} {f : A → D} {p : A → PyData} {l : List A} {w dp : Nat} (hp : ∀ a C, toP C (f a) = some (p a)) (h : ∀ a ∈ l, Shw (f a) w dp (p a)) : Shw (.lst (l.map f)) ((w + 1) * l.length) (dp + 1) (.list (l.map p)) where
  to := fun C => by
    show (toPs C (l.map f)).map PyData.list = _
    rw [toPs_map hp]
    rfl
  sh := showAll fun x hx => by obtain ⟨a, ha, rfl⟩ := List.mem_map.mp hx; exact (h a ha).sh
  la := layAll fun x hx => by obtain ⟨a, ha, rfl⟩ := List.mem_map.mp hx; exact (h a ha).la
  de := Nat.succ_le_succ (depthAll_le fun x hx => by obtain ⟨a, ha, rfl⟩ := List.mem_map.mp hx; exact (h a ha).de)
  we := by
    have := weightAll_le (n := w) (l := l.map p) fun x hx => by obtain ⟨a, ha, rfl⟩ := List.mem_map.mp hx; exact (h a ha).we
    rw [List.length_map] at this
    exact this
  si := shortAll fun x hx => by obtain ⟨a, ha, rfl⟩ := List.mem_map.mp hx; exact (h a ha).si
theorem Shw.ints {l : List Int} (h : ∀ x ∈ l, smI x) : Shw (.lst (l.map D.int)) (42 * l.length) 1 (.list (l.map PyData.int)) := Shw.map (fun _ _ => rfl) fun a ha => Shw.int (h a ha)
theorem Shw.tup2 {a b : D} {p q : PyData} {w1 w2 d1 d2 : Nat} (h1 : Shw a w1 d1 p) (h2 : Shw b w2 d2 q) : Shw (.tup [a, b]) (w1 + w2 + 2) (max d1 d2 + 1) (.tuple [p, q]) where
  to := fun C => by
    show (match toP C a, (match toP C b, (some [] : Option (List PyData)) with
      | some p, some ps => some (p :: ps)
      | _, _ => none) with
      | some p, some ps => some (p :: ps)
      | _, _ => none).map PyData.tuple = _
    rw [h1.to, h2.to]
    rfl
  sh := by show (p.showable && (q.showable && true)) = true; rw [h1.sh, h2.sh]; rfl
  la := by show (p.canLay0 && (q.canLay0 && true)) = true; rw [h1.la, h2.la]; rfl
  de := by
    show max p.depth (max q.depth 0) + 1 ≤ _
    have := h1.de
    have := h2.de
    omega
  we := by
    show p.weight + 1 + (q.weight + 1 + 0) ≤ _
    have := h1.we
    have := h2.we
    omega
  si := by show (p.intsShort 13 && (q.intsShort 13 && true)) = true; rw [h1.si, h2.si]; rfl
/-- the store as it was, then new cells; two of them come out -/
theorem fin_two0 {Y : Store} {a b : Cell} {j k : Nat} (hk : Y[j]? = some a) (hk2 : Y[k]? = some b) (hjk : j ≠ k) (ha : closedC 0 a = true) (hb : closedC 0 b = true) (h : QD (.tup [.cell C.length, .cell (C.length + 1)]) (C ++ [a, b])) :
    W (fin C (.tup [.cell (C.length + j), .cell (C.length + k)]) (C ++ Y)) QD := by
  refine W.of (a := .tup [.cell C.length, .cell (C.length + 1)]) (C := C ++ [a, b]) ?_ h
  unfold fin
  rw [if_pos (same_cond C Y)]
  simp only [at_app, hk, hk2]
  rw [if_pos ⟨by omega, by omega, by omega, closedC_mono (Nat.zero_le _) _ ha, closedC_mono (Nat.zero_le _) _ hb⟩, List.take_left' rfl]
/-- .. one of them -/
theorem fin_one0 {Y : Store} {a : Cell} {k : Nat} (hk : Y[k]? = some a) (ha : closedC 0 a = true) (h : QD (.cell C.length) (C ++ [a])) : W (fin C (.cell (C.length + k)) (C ++ Y)) QD := by
  refine W.of (a := .cell C.length) (C := C ++ [a]) ?_ h
  unfold fin
  rw [if_pos (same_cond C Y)]
  simp only [at_app, hk]
  rw [if_neg (by omega), if_pos (closedC_mono (Nat.zero_le _) _ ha), List.take_left' rfl]
theorem w_forNil (h : QS .nx sl C) : WS (forM g u [] [] sl C) QS := by
  unfold forM
  rw [if_pos (okG_nil _)]
  exact WS.ok h
theorem w_forCons {d : D} (h : W (g d sl C) fun sl1 C1 => WS (u sl1 C1) (forQ (fun sl2 C2 => WS (forM g u [] ds sl2 C2) QS) QS)) : WS (forM g u [] (d :: ds) sl C) QS := by
  unfold forM
  rw [if_pos (okG_nil _)]
  refine W.bindS (h.imp fun sl1 C1 h => WS.bindS (h.imp fun f sl2 C2 h => ?_))
  cases f with
  | nx => exact h
  | ct => exact h
  | bk => exact WS.ok h
  | rt d => exact WS.ok h
theorem w_forq {P : Sl → Store → Prop} (h : P sl C) : forQ P QS .nx sl C := h
theorem w_forqC {P : Sl → Store → Prop} (h : P sl C) : forQ P QS .ct sl C := h
theorem w_forqR {P : Sl → Store → Prop} {d : D} (h : QS (.rt d) sl C) : forQ P QS (.rt d) sl C := h
theorem w_forqB {P : Sl → Store → Prop} (h : QS .nx sl C) : forQ P QS .bk sl C := h
theorem w_inT {neg : Bool} {x : Str} {l : List Str} (q : QD (.bl (if neg then !(l.any fun y => y == x) else l.any fun y => y == x)) C) : W (gIn neg (.str x) (.tup (l.map D.str)) C) QD := by
  refine W.of (a := .bl _) (C := C) ?_ q
  have h1 : (l.map D.str).all flatD = true := by simp [flatD]
  have h2 : inF (.str x) (l.map D.str) = l.any fun y => y == x := by
    unfold inF
    rw [List.any_map]
    rfl
  show (if (flatD (.str x) && (l.map D.str).all flatD) = true then R.ok (D.bl (if neg then !inF (.str x) (l.map D.str) else inF (.str x) (l.map D.str)), C) else .no) = _
  rw [h1, h2]
  rfl
theorem low_of {i : Int} (h1 : -1000000 ≤ i) (h2 : i ≤ 1000000) : lowI i = true := by
  unfold lowI
  rw [Bool.and_eq_true]
  exact ⟨decide_eq_true (by omega), decide_eq_true (by omega)⟩
theorem len_le {l : List D} (h : l.length ≤ 10000000) : l.length ≤ sizeLine := Nat.le_trans h (by decide)
theorem atI_map {A : Type} {f : A → D} {l : List A} {i : Int} {x : A} (h0 : 0 ≤ i) (h : l[i.toNat]? = some x) : atI (l.map f) i = some (f x) := by
  have hl := (List.getElem?_eq_some_iff.mp h).1
  unfold atI
  rw [ixN_int h0 (by simp; omega), Option.bind_some, List.getElem?_map, h]
  rfl
/-! a cut of a list -/
theorem cutD_map {A : Type} (f : A → D) (l : List A) (a b : Option Int) : cutD (l.map f) a b = ((l.drop (HT.sIx l.length 0 a)).take (HT.sIx l.length l.length b - HT.sIx l.length 0 a)).map f := by
  unfold cutD
  rw [List.length_map, ← List.map_drop, ← List.map_take]
theorem closedDs_map {A : Type} {f : A → D} {n : Nat} (h : ∀ a, closedD n (f a) = true) : ∀ l : List A, closedDs n (l.map f) = true
  | [] => rfl
  | x :: l => by
    show (closedD n (f x) && closedDs n (l.map f)) = true
    rw [h, closedDs_map h l]
    rfl
/-! and, or of values with no effect -/
theorem w_andV {ma mb : ME} {a b : Bool} (h : W (ma sl C) fun x C1 => x = .bl a ∧ C1 = C) (h2 : W (mb sl C) fun x C1 => x = .bl b ∧ C1 = C) (q : QD (.bl (a && b)) C) : W (mAnd ma mb sl C) QD := by
  refine w_and (h.imp fun x C1 h => ?_)
  obtain ⟨rfl, rfl⟩ := h
  refine ⟨a, rfl, ?_⟩
  cases a with
  | true => rw [if_pos rfl]; exact h2.imp fun x C1 h => by obtain ⟨rfl, rfl⟩ := h; exact q
  | false => rw [if_neg Bool.false_ne_true]; exact q
theorem w_orV {ma mb : ME} {a b : Bool} (h : W (ma sl C) fun x C1 => x = .bl a ∧ C1 = C) (h2 : W (mb sl C) fun x C1 => x = .bl b ∧ C1 = C) (q : QD (.bl (a || b)) C) : W (mOr ma mb sl C) QD := by
  refine w_or (h.imp fun x C1 h => ?_)
  obtain ⟨rfl, rfl⟩ := h
  refine ⟨a, rfl, ?_⟩
  cases a with
  | true => rw [if_pos rfl]; exact q
  | false => rw [if_neg Bool.false_ne_true]; exact h2.imp fun x C1 h => by obtain ⟨rfl, rfl⟩ := h; exact q
theorem w_tAndV {ta tb : MG Bool} {a b : Bool} (h : W (ta sl C) fun x C1 => x = a ∧ C1 = C) (h2 : W (tb sl C) fun x C1 => x = b ∧ C1 = C) (q : QB (a && b) C) : W (tAndM ta tb sl C) QB := by
  refine w_tAnd (h.imp fun x C1 h => ?_)
  obtain ⟨rfl, rfl⟩ := h
  cases x with
  | true => rw [if_pos rfl]; exact h2.imp fun x C1 h => by obtain ⟨rfl, rfl⟩ := h; exact q
  | false => rw [if_neg Bool.false_ne_true]; exact q
theorem w_tOrV {ta tb : MG Bool} {a b : Bool} (h : W (ta sl C) fun x C1 => x = a ∧ C1 = C) (h2 : W (tb sl C) fun x C1 => x = b ∧ C1 = C) (q : QB (a || b) C) : W (tOrM ta tb sl C) QB := by
  refine w_tOr (h.imp fun x C1 h => ?_)
  obtain ⟨rfl, rfl⟩ := h
  cases x with
  | true => rw [if_pos rfl]; exact q
  | false => rw [if_neg Bool.false_ne_true]; exact h2.imp fun x C1 h => by obtain ⟨rfl, rfl⟩ := h; exact q
/-! ends with closed values -/
theorem fin_closed1 {C1 Y : Store} {d : D} (hl : C1.length = C.length) (hc : ClS C1) (hd : closedD 0 d = true) (h : QD d C1) : W (fin C d (C1 ++ Y)) QD := by
  refine W.of (a := d) (C := C1) ?_ h
  unfold fin
  rw [if_pos (app_cond hl (hc.at _))]
  split
  · simp [closedD] at hd
  · simp [closedD, closedDs] at hd
  · rw [if_pos (closedD_mono (Nat.zero_le _) d hd), app_take hl]
theorem fin_closed {Y : Store} {d : D} (hd : closedD 0 d = true) (h : QD d C) : W (fin C d (C ++ Y)) QD := by
  refine W.of (a := d) (C := C) ?_ h
  unfold fin
  rw [if_pos (same_cond C Y)]
  split
  · simp [closedD] at hd
  · simp [closedD, closedDs] at hd
  · rw [if_pos (closedD_mono (Nat.zero_le _) d hd), List.take_left' rfl]
theorem fin_closed10 {C1 : Store} {d : D} (hl : C1.length = C.length) (hc : ClS C1) (hd : closedD 0 d = true) (h : QD d C1) : W (fin C d C1) QD := by
  have := fin_closed1 (Y := []) hl hc hd h
  rwa [List.append_nil] at this
/-- a value without cells stays as it is; the new cells go -/
theorem w_fzV {n : Nat} (h : W (m sl C) fun d C' => ∃ C1 Y, C' = C1 ++ Y ∧ C1.length = C.length ∧ ClS C1 ∧ closedD 0 d = true ∧ QD d C1) : W (mFz n m sl C) QD := by
  refine W.bind (h.imp fun d C' h => ?_)
  obtain ⟨C1, Y, rfl, hl, hc, hd, q⟩ := h
  simp only [frz_id n _ d hd]
  exact fin_closed1 hl hc hd q
/-! blocks whose cells go -/
def gcQ (n : Nat) (ks : List Nat) (QS : Fl → Sl → Store → Prop) : Fl → Sl → Store → Prop := fun f sl1 C1 => match f with
  | .nx => ∃ C2 Y, C1 = C2 ++ Y ∧ C2.length = n ∧ ClS C2 ∧ slOk n (wipeS sl1 ks) = true ∧ QS .nx (wipeS sl1 ks) C2
  | .ct => ∃ C2 Y, C1 = C2 ++ Y ∧ C2.length = n ∧ ClS C2 ∧ slOk n (wipeS sl1 ks) = true ∧ QS .ct (wipeS sl1 ks) C2
  | f => QS f sl1 C1
theorem w_gc {ks : List Nat} (h : WS (u sl C) (gcQ C.length ks QS)) : WS (sGc ks u sl C) QS := WS.bindS (WS.imp h fun f sl1 C1 h => by
  cases f with
  | nx =>
    obtain ⟨C2, Y, rfl, hl, hc, hs, q⟩ := h
    have e : C.length ≤ (C2 ++ Y).length ∧ (∀ (i : Nat), i < C.length → (C2 ++ Y)[i]? = C[i]? ∨ ∃ c, (C2 ++ Y)[i]? = some c ∧ closedC C.length c = true) ∧ slOk C.length (wipeS sl1 ks) = true := ⟨(app_cond hl (hc.at _)).1, (app_cond hl (hc.at _)).2, hs⟩
    simp only [if_pos e]
    refine WS.ok ?_
    rw [app_take hl]
    exact q
  | ct =>
    obtain ⟨C2, Y, rfl, hl, hc, hs, q⟩ := h
    have e : C.length ≤ (C2 ++ Y).length ∧ (∀ (i : Nat), i < C.length → (C2 ++ Y)[i]? = C[i]? ∨ ∃ c, (C2 ++ Y)[i]? = some c ∧ closedC C.length c = true) ∧ slOk C.length (wipeS sl1 ks) = true := ⟨(app_cond hl (hc.at _)).1, (app_cond hl (hc.at _)).2, hs⟩
    simp only [if_pos e]
    refine WS.ok ?_
    rw [app_take hl]
    exact q
  | rt d => exact WS.ok h
  | bk => exact WS.ok h)
theorem gc_n0 {n : Nat} {ks : List Nat} (hl : C.length = n) (hc : ClS C) (hs : slOk n (wipeS sl ks) = true) (q : QS .nx (wipeS sl ks) C) : gcQ n ks QS .nx sl C := ⟨C, [], by simp, hl, hc, hs, q⟩
theorem gc_nil {ks : List Nat} (hs : slOk 0 (wipeS sl ks) = true) (q : QS .nx (wipeS sl ks) []) : gcQ ([] : Store).length ks QS .nx sl C := ⟨[], C, rfl, rfl, ClS.nil, hs, q⟩
theorem gc_r {n : Nat} {ks : List Nat} {d : D} (q : QS (.rt d) sl C) : gcQ n ks QS (.rt d) sl C := q
theorem gc_b {n : Nat} {ks : List Nat} (q : QS .bk sl C) : gcQ n ks QS .bk sl C := q
theorem w_scut {QS' : Fl → Sl → Store → Prop} {o : RS} (h : WS o QS') (k : ∀ f sl C, QS' f sl C → QS f sl C) : WS o QS := WS.imp h k
theorem w_runK {n : Nat} {ds : List D} (h : WS (u (ds.map some ++ List.replicate (n - ds.length) none) C) fun f _ C' => match f with
    | .nx => QD .non C'
    | .rt d => QD d C'
    | _ => False) : W (runK n u ds C) QD := WS.bind (h.imp fun f sl C' h => by
  cases f with
  | nx => exact W.ok h
  | rt d => exact W.ok h
  | bk => exact h.elim
  | ct => exact h.elim)
theorem rgD_length (a b : Int) : (rgD a b).length = (b - a).toNat := by simp [rgD]
theorem rgDown_length (a b : Int) : (rgDown a b).length = (a - b).toNat := by simp [rgDown]
theorem ite_cut {S : Type} {b : Bool} {o1 o2 : R (S × Store)} {Q : S → Store → Prop} (Q' : S → Store → Prop) (h1 : b = true → W o1 Q') (h2 : b = false → W o2 Q') (k : ∀ a C, Q' a C → Q a C) : if b = true then W o1 Q else W o2 Q := by
  cases b with
  | true => exact (h1 rfl).imp k
  | false => exact (h2 rfl).imp k
/-- frozen: a pair of new lists -/
theorem w_fzS {n : Nat} (h : W (m sl C) fun d C1 => ∃ (xs ys : List D), d = .tup [.cell C.length, .cell (C.length + 1)] ∧ C1 = C ++ [.lst xs, .lst ys] ∧ closedDs 0 xs = true ∧ closedDs 0 ys = true ∧ QD (.tup [.lst xs, .lst ys]) C) : W (mFz (n + 2) m sl C) QD := by
  refine W.bind (h.imp fun d C1 h => ?_)
  obtain ⟨xs, ys, rfl, rfl, h1, h2, q⟩ := h
  have e1 : (C ++ [Cell.lst xs, Cell.lst ys])[C.length]? = some (.lst xs) := at_app0
  have e2 : (C ++ [Cell.lst xs, Cell.lst ys]).set C.length (.fz xs) = C ++ [.fz xs, .lst ys] := set_app0
  have e3 : (C ++ [Cell.fz xs, Cell.lst ys])[C.length + 1]? = some (.lst ys) := at_app
  have e4 : (C ++ [Cell.fz xs, Cell.lst ys]).set (C.length + 1) (.fz ys) = C ++ [.fz xs, .fz ys] := set_app
  have f1 : frz (n + 1) (.cell C.length) (C ++ [Cell.lst xs, Cell.lst ys]) = some (.lst xs, C ++ [.fz xs, .lst ys]) := by
    unfold frz
    simp only [e1, e2]
    rw [frzL_id _ xs fun x hx => frz_id n _ x (closed_mem h1 hx)]
    rfl
  have f2 : frz (n + 1) (.cell (C.length + 1)) (C ++ [Cell.fz xs, Cell.lst ys]) = some (.lst ys, C ++ [.fz xs, .fz ys]) := by
    unfold frz
    simp only [e3, e4]
    rw [frzL_id _ ys fun x hx => frz_id n _ x (closed_mem h2 hx)]
    rfl
  have f3 : frz (n + 2) (.tup [.cell C.length, .cell (C.length + 1)]) (C ++ [Cell.lst xs, Cell.lst ys]) = some (.tup [.lst xs, .lst ys], C ++ [.fz xs, .fz ys]) := by
    show (frzL (frz (n + 1)) _ _).bind _ = _
    unfold frzL
    rw [f1, Option.bind_some]
    unfold frzL
    rw [f2, Option.bind_some]
    rfl
  simp only [f3]
  refine fin_closed ?_ q
  show (closedDs 0 xs && (closedDs 0 ys && true)) = true
  rw [h1, h2]
  rfl
/-- .. one new list -/
theorem w_fzL {n : Nat} (h : W (m sl C) fun d C1 => ∃ (xs : List D), d = .cell C.length ∧ C1 = C ++ [.lst xs] ∧ closedDs 0 xs = true ∧ QD (.lst xs) C) : W (mFz (n + 1) m sl C) QD := by
  refine W.bind (h.imp fun d C1 h => ?_)
  obtain ⟨xs, rfl, rfl, h1, q⟩ := h
  have e1 : (C ++ [Cell.lst xs])[C.length]? = some (.lst xs) := at_app0
  have e2 : (C ++ [Cell.lst xs]).set C.length (.fz xs) = C ++ [.fz xs] := set_app0
  have f1 : frz (n + 1) (.cell C.length) (C ++ [Cell.lst xs]) = some (.lst xs, C ++ [.fz xs]) := by
    unfold frz
    simp only [e1, e2]
    rw [frzL_id _ xs fun x hx => frz_id n _ x (closed_mem h1 hx)]
    rfl
  simp only [f1]
  exact fin_closed h1 q
theorem w_fzV0 {n : Nat} (h : W (m sl C) fun d C' => ∃ Y, C' = C ++ Y ∧ closedD 0 d = true ∧ QD d C) : W (mFz n m sl C) QD := by
  refine W.bind (h.imp fun d C' h => ?_)
  obtain ⟨Y, rfl, hd, q⟩ := h
  simp only [frz_id n _ d hd]
  exact fin_closed hd q
end
theorem w_gmNn {i : Nat} {d : D} {sl sl' : Sl} {C : Store} {Q : Sl → Store → Prop} (e : sl.set i (some d) = sl') (h : Q sl' C) : W (gmN i d sl C) Q := by
  subst e
  exact w_gmN h
theorem w_runn {n : Nat} {u : MS} {ds : List D} {C : Store} {sl' : Sl} {QD : D → Store → Prop} (e : ds.map some ++ List.replicate (n - ds.length) none = sl') (h : WS (u sl' C) fun f _ C' => match f with
    | .nx => W (fin C .non C') QD
    | .rt d => W (fin C d C') QD
    | _ => False) : W (runD n u ds C) QD := by
  subst e
  exact w_run h
theorem w_runKn {n : Nat} {u : MS} {ds : List D} {C : Store} {sl' : Sl} {QD : D → Store → Prop} (e : ds.map some ++ List.replicate (n - ds.length) none = sl') (h : WS (u sl' C) fun f _ C' => match f with
    | .nx => QD .non C'
    | .rt d => QD d C'
    | _ => False) : W (runK n u ds C) QD := by
  subst e
  exact w_runK h
theorem gc_niln {QS : Fl → Sl → Store → Prop} {sl sl' : Sl} {C : Store} {ks : List Nat} (e : wipeS sl ks = sl') (hs : slOk 0 sl' = true) (q : QS .nx sl' []) : gcQ ([] : Store).length ks QS .nx sl C := by
  subst e
  exact gc_nil hs q
theorem gc_nn0 {QS : Fl → Sl → Store → Prop} {sl sl' : Sl} {C : Store} {n : Nat} {ks : List Nat} (e : wipeS sl ks = sl') (hl : C.length = n) (hc : ClS C) (hs : slOk n sl' = true) (q : QS .nx sl' C) : gcQ n ks QS .nx sl C := by
  subst e
  exact gc_n0 hl hc hs q
theorem w_parn {i j : Nat} {mas : MG (List D)} {sl : Sl} {C : Store} {QS : Fl → Sl → Store → Prop} (h : W (mas sl C) fun xs C1 => ∃ x y, xs = [x, y] ∧ ∃ sl', (sl.set i (some x)).set j (some y) = sl' ∧ QS .nx sl' C1) : WS (sPar i j mas sl C) QS :=
  w_par (h.imp fun xs C1 h => by
    obtain ⟨x, y, rfl, sl', rfl, q⟩ := h
    exact ⟨x, y, rfl, q⟩)
theorem slset_i {sl sl' : Sl} {P : Sl → Prop} (e : sl = sl') (h : P sl') : ∃ s, sl = s ∧ P s := ⟨sl', e, h⟩
end Nv

namespace Nv
open PySem PySem.Spec PyProof.Rows L2
section
variable {QD : D → Store → Prop} {QS : Fl → Sl → Store → Prop} {sl : Sl} {C : Store} {m : ME} {t : MG Bool} {u : MS} {g : MT} {gd : Gd} {ds : List D} {A : Type} {φ : A → D}
/-- a comprehension over a list told by things: maps -/
theorem w_lcA {l : List A} {f : A → D} {Q : List D → Store → Prop} (hg : okG gd C) (step : ∀ (i : Nat) (a : A), l[i]? = some a → W (g (φ a) sl C) fun sl1 C1 => W (m sl1 C1) fun e C3 => e = f a ∧ C3 = C) (q : Q (l.map f) C) : W (lcM g tTrue m gd sl (l.map φ) C) Q := by
  refine w_lcM (fun i acc C' => C' = C ∧ acc = (l.take i).map f) (fun _ _ _ h => h.1 ▸ hg) (fun i d acc C' hd h => ?_) (fun zs C' h => ?_) ⟨rfl, rfl⟩
  · obtain ⟨rfl, rfl⟩ := h
    rw [List.getElem?_map, Option.map_eq_some_iff] at hd
    obtain ⟨a, ha, rfl⟩ := hd
    refine (step i a ha).imp fun sl1 C1 h => w_tTrue ?_
    rw [if_pos rfl]
    refine h.imp fun e C3 h => ?_
    obtain ⟨rfl, rfl⟩ := h
    exact ⟨rfl, by rw [List.take_succ, ha]; simp⟩
  · obtain ⟨rfl, rfl⟩ := h
    rw [List.length_map, List.take_length]
    exact q
/-- .. sifts, and maps -/
theorem w_lcAf {l : List A} {p : A → Bool} {f : A → D} {Q : List D → Store → Prop} (hg : okG gd C) (step : ∀ (i : Nat) (a : A), l[i]? = some a → W (g (φ a) sl C) fun sl1 C1 => W (t sl1 C1) fun b C2 => b = p a ∧ C2 = C ∧ (p a = true → W (m sl1 C) fun e C3 => e = f a ∧ C3 = C)) (q : Q ((l.filter p).map f) C) : W (lcM g t m gd sl (l.map φ) C) Q := by
  refine w_lcM (fun i acc C' => C' = C ∧ acc = ((l.take i).filter p).map f) (fun _ _ _ h => h.1 ▸ hg) (fun i d acc C' hd h => ?_) (fun zs C' h => ?_) ⟨rfl, rfl⟩
  · obtain ⟨rfl, rfl⟩ := h
    rw [List.getElem?_map, Option.map_eq_some_iff] at hd
    obtain ⟨a, ha, rfl⟩ := hd
    refine (step i a ha).imp fun sl1 C1 h => h.imp fun b C2 h => ?_
    obtain ⟨rfl, rfl, h⟩ := h
    rw [List.take_succ, ha, List.filter_append, List.map_append]
    by_cases hp : p a = true
    · rw [if_pos hp]
      refine (h hp).imp fun e C3 h => ?_
      obtain ⟨rfl, rfl⟩ := h
      exact ⟨rfl, by simp [hp]⟩
    · rw [if_neg hp]
      exact ⟨rfl, by simp [hp]⟩
  · obtain ⟨rfl, rfl⟩ := h
    rw [List.length_map, List.take_length]
    exact q
/-- numbers drawn, each of an effect upon the store, counted -/
theorem w_lcEffN {Q : List D → Store → Prop} (P : Nat → Store → Prop) (B : Nat → Int → Prop) (hg : ∀ i C, P i C → okG gd C)
    (step : ∀ i d C, ds[i]? = some d → P i C → W (g d sl C) fun sl1 C1 => W (m sl1 C1) fun e C2 => ∃ x, e = .int x ∧ B i x ∧ P (i + 1) C2)
    (h0 : P 0 C) (q : ∀ (xs : List Int) C', xs.length = ds.length → (∀ i x, xs[i]? = some x → B i x) → P ds.length C' → Q (xs.map D.int) C') : W (lcM g tTrue m gd sl ds C) Q := by
  refine w_lcM (fun i acc C' => ∃ xs : List Int, acc = xs.map D.int ∧ xs.length = i ∧ (∀ j x, xs[j]? = some x → B j x) ∧ P i C') (fun _ _ _ h => hg _ _ h.choose_spec.2.2.2) (fun i d acc C' hd h => ?_) (fun zs C' h => ?_) ⟨[], rfl, rfl, (fun _ _ h => nomatch h), h0⟩
  · obtain ⟨xs, rfl, hl, hB, hP⟩ := h
    refine (step i d C' hd hP).imp fun sl1 C1 h => w_tTrue ?_
    rw [if_pos rfl]
    refine W.imp h fun e C2 h => ?_
    obtain ⟨x, rfl, hx, hP2⟩ := h
    refine ⟨xs ++ [x], by simp, by simp [hl], fun j y hj => ?_, hP2⟩
    rcases Nat.lt_or_ge j xs.length with hji | hji
    · rw [List.getElem?_append_left hji] at hj
      exact hB j y hj
    · rw [List.getElem?_append_right hji] at hj
      cases hk : j - xs.length with
      | zero =>
        rw [hk] at hj
        cases hj
        have : j = i := by omega
        subst this
        exact hx
      | succ n => rw [hk] at hj; simp at hj
  · obtain ⟨xs, rfl, hl, hB, hP⟩ := h
    exact q xs C' hl hB hP
theorem lt0 : ([] : List D).length < sizeLine := by simp [sizeLine]
theorem lt1 {a : D} : [a].length < sizeLine := by simp [sizeLine]
theorem lt1a {a : D} : (([] : List D) ++ [a]).length < sizeLine := by simp [sizeLine]
end
end Nv

namespace Nv
open PySem PySem.Spec PyProof.Rows L2
/-! calls by keywords alone -/
/-- the keywords' values in the parameters' order -/
def pmV {A : Type} (pm : List Nat) : List A → List A → List A
  | [], ws => if ws.length = pm.length then pm.filterMap (fun i : Nat => ws[i]?) else []
  | _ :: _, _ => []
theorem pmV_nil {A : Type} (pm : List Nat) (ws : List A) : pmV pm [] ws = if ws.length = pm.length then pm.filterMap (fun i : Nat => ws[i]?) else [] := rfl
def DefAtK (K : PySem.W.Frag) (mg : Str → Option Value) (x : Str) (st : Stmt) (ps ks : List Str) (pm : List Nat) : Prop := ∃ f fd, Fun K x x st f fd ∧ mg x = some (.ref f) ∧ KBinds K fd ps ks (pmV pm) (pmV pm)
def CalK (P : Program) (w : World) (K : PySem.W.Frag) (mg : Str → Option Value) (base : Heap) (x : Str) (k n : Nat) (ks : List Str) (pm : List Nat) (mf : MF) : Prop :=
  ∃ f fd ps, FnG P w K mg base k f fd ps (spN K mg n mf) ∧ mg x = some (.ref f) ∧ PySem.W.keepIn K (.ref f) = true ∧ KBinds K fd ps ks (pmV pm) (pmV pm)
section
variable {P : Program} {w : World} {K : PySem.W.Frag} {mg : Str → Option Value} {base : Heap}
theorem CalK.of {x : Str} {st : Stmt} {N ps ks : List Str} {pm : List Nat} {k : Nat} {u : MS} (h : DefAtK K mg x st ps ks pm) (S : FnScope N ps (defScope st))
    (hb : ∀ (f : Addr) (cdv : Value) (A : Around) (outer : List Env) (s : Shared) (H : Hp) (E : XK), Room k (A.deeper (envOfC x (defScope st) s.heap.objs.size f cdv)) → A.guards = some [] →
      NSs (cxOf (L2.CX P w) P w K mg base N x (defScope st) f cdv A outer s H E) E (defBody st) u) : CalK P w K mg base x (k + 1) ps.length ks pm (runD N.length u) := by
  obtain ⟨f, fd, h1, h2, h3⟩ := h
  exact ⟨f, fd, ps, okD h1 S fun cdv A outer s H E hr hg => hb f cdv A outer s H E hr hg, h2, h1.kp, h3⟩
end
section
variable {X : Cx} {E : XK} {pos p : Pos} {f : Addr} {fd : FuncData} {ps : List Str} {k : Nat} {x : Str}
structure NKs (X : Cx) (E : XK) (kws : List Keyword) (m : MG (List D)) : Prop where
  pk : PK X kws (LG (Reps X.K) X.K X.mg E m)
def mFK (n : Nat) (pm : List Nat) (mf : MF) (mas : MG (List D)) : ME := fun sl C => (mas sl C).bind fun p => if (pmV pm [] p.1).length = n then mf (pmV pm [] p.1) p.2 else .no
end
theorem w_FK {n : Nat} {pm : List Nat} {mf : MF} {mas : MG (List D)} {sl : Sl} {C : Store} {QD : D → Store → Prop} (h : W (mas sl C) fun xs C1 => ∃ ys, pmV pm [] xs = ys ∧ ys.length = n ∧ W (mf ys C1) QD) : W (mFK n pm mf mas sl C) QD := W.bind (h.imp fun xs C1 h => by
  obtain ⟨ys, rfl, hl, q⟩ := h
  simp only [if_pos hl]
  exact q)
theorem pm_i {pm : List Nat} {xs ys : List D} {P : List D → Prop} (e : pmV pm [] xs = ys) (h : P ys) : ∃ zs, pmV pm [] xs = zs ∧ P zs := ⟨ys, e, h⟩
end Nv

namespace Nv
open PySem PySem.Spec PyProof.Rows L2
section
variable {K : PySem.W.Frag} {mg : Str → Option Value} {E : XK} {B F H : Hp} {r : List Addr} {C : Store} {Q : VK} {X : Cx} {a b e o i value kx vx tg it : Expr} {es : List Expr} {m ma mb mo mv mi mk : ME} {mas : MG (List D)} {pos p1 p2 p3 : Pos}
/-! dicts asked whether they have a key; dicts whose keys are flat -/
theorem val_none {κ : Type} [DecidableEq κ] {k : κ} : ∀ {kvs : List (κ × D)} {ws : List (κ × V)}, kvs.map (·.1) = ws.map (·.1) → (valD kvs k).isSome = (valV ws k).isSome
  | [], [], _ => rfl
  | [], _ :: _, h => by cases h
  | _ :: _, [], h => by cases h
  | kv :: kvs, w :: ws, h => by
    rw [List.map_cons, List.map_cons, List.cons.injEq] at h
    have ih := val_none (k := k) h.2
    unfold valD valV at ih ⊢
    rw [List.find?_cons, List.find?_cons]
    by_cases hk : kv.1 = k
    · rw [decide_eq_true hk, decide_eq_true (h.1.symm.trans hk)]
      rfl
    · rw [decide_eq_false hk, decide_eq_false fun z => hk (h.1.trans z)]
      exact ih
/-! flat keys -/
def dkAt (C : Store) : D → Option (Nat × List (Key × D))
  | .cell i => match C[i]? with
    | some (.dk kvs) => some (i, kvs)
    | _ => none
  | _ => none
theorem dkAt_ok {x : D} {v : V} {i : Nat} {kvs : List (Key × D)} (hr : Rel K B F r H C) (hx : Rep K F r x v) (e : dkAt C x = some (i, kvs)) :
    ∃ a ws, v = .ref a ∧ r[i]? = some a ∧ F a = none ∧ H a = some (.dK ws) ∧ kvs.map (·.1) = ws.map (·.1) ∧ Reps K F r (kvs.map (·.2)) (ws.map (·.2)) := by
  unfold dkAt at e
  split at e
  · split at e
    · rename_i ks ec
      cases e
      obtain ⟨a, rfl, ha⟩ := hx
      obtain ⟨h1, ws, h2, h3, h4⟩ := hr.cells _ _ a ec ha
      exact ⟨a, ws, rfl, ha, h1, h2, h3, h4⟩
    · cases e
  · cases e
/-- {}, a thing that nobody changes -/
def mDEmp : ME := fun _ C => .ok (.edct, C)
theorem ne_demp : NE X E (.Dict [] [] pos) mDEmp := ⟨pe_imp pe_dnewK fun s H Q q => by
    obtain ⟨B, F, r, sl, C, hr, hs, o⟩ := q
    intro p hp
    exact o (upd F p (.dK [])) r _ _ (same_new (hr.freeF hp)) (.refl r) (hr.freeze hp) ⟨p, rfl, upd_same⟩⟩
/-- k in d, not in d -/
def mDInK (neg : Bool) (mi mo : ME) : ME := fun sl C => (mi sl C).bind fun q => (mo sl q.2).bind fun p => match dkAt p.2 p.1, keyOf q.1 with
  | some (_, kvs), some k => .ok (.bl (if neg then !(valD kvs k).isSome else (valD kvs k).isSome), p.2)
  | _, _ => .no
theorem dinK_ok {neg : Bool} {s : L2.St} {H : Hp} {Q : VK} (q : LG (Rep X.K) X.K X.mg E (mDInK neg mi mo) s H Q) : LG (Rep X.K) X.K X.mg E mi s H fun y H1 => LG (Rep X.K) X.K X.mg E mo s H1 fun x H2 => ∃ a o, x = .ref a ∧ DGet H2 a y o ∧ Q (.bl (if neg then !o.isSome else o.isSome)) H2 := by
  obtain ⟨B, F, r, sl, C, hr, hs, o⟩ := q
  refine ⟨B, F, r, sl, C, hr, hs, Out.bind (P := Rep X.K) o fun x C1 F1 r1 H1 v e1 e2 hr1 hx o1 => ?_⟩
  refine ⟨B, F1, r1, sl, C1, hr1, hs.mono e1 e2, Out.bind (P := Rep X.K) o1 fun y C2 F2 r2 H2 u e3 e4 hr2 hy o2 => ?_⟩
  have hx2 := hx.mono e3 e4
  simp only at o2
  split at o2
  · rename_i n kvs k ed ek
    obtain ⟨a, ws, rfl, h1, h2, h3, h4, h5⟩ := dkAt_ok hr2 hy ed
    refine ⟨a, valV ws k, rfl, ?_, ?_⟩
    · rw [keyOf_ok hx2 ek]
      exact DGet.k h3
    · rw [← val_none h4]
      exact out_ok (d := .bl (if neg then !(valD kvs k).isSome else (valD kvs k).isSome)) hr2 rfl o2
  · exact False.elim o2
theorem nt_dninK (hu : X.A.units + 64 < cLine) (hi : NE X E i mi) (ho : NE X E o mo) (hk : behindInMarks .NotIn o = false := by rfl) : NT X E (.Compare i [.NotIn] [o] pos) (mT (mDInK true mi mo)) :=
  ⟨pt_imp (pt_cmp (pc_dnotin (show X.A.units + 1 < cLine by omega) hi.pe ho.pe) hk) (test fun _ _ _ q => dinK_ok (neg := true) q)⟩
/-! dict comprehensions -/
theorem wipe_twice : ∀ (own : List Nat) (s : L2.St), L2.wipe (L2.wipe s own) own = L2.wipe s own := by
  have none_stays : ∀ (l : List Nat) (x : Nat) (z : L2.St), z[x]? = some none ∨ z.length ≤ x → (wipe z l)[x]? = some none ∨ (wipe z l).length ≤ x := by
    intro l
    induction l with
    | nil => intro x z h; exact h
    | cons v vs ih =>
      intro x z h
      unfold wipe
      by_cases hv : v = x
      · subst hv
        by_cases hv2 : v < (wipe z vs).length
        · exact .inl (List.getElem?_set_self hv2)
        · exact .inr (by simpa using hv2)
      · rw [List.getElem?_set_ne hv, List.length_set]
        exact ih x z h
  have fix : ∀ (l : List Nat) (z : L2.St), (∀ x ∈ l, z[x]? = some none ∨ z.length ≤ x) → wipe z l = z := by
    intro l
    induction l with
    | nil => intro z _; rfl
    | cons v vs ih =>
      intro z h
      unfold wipe
      rw [ih z fun x hx => h x (List.mem_cons_of_mem _ hx)]
      rcases h v List.mem_cons_self with e | e
      · apply List.ext_getElem?
        intro j
        by_cases hj : v = j
        · subst hj
          rw [List.getElem?_set_self (List.getElem?_eq_some_iff.mp e).1, e]
        · rw [List.getElem?_set_ne hj]
      · rw [List.set_eq_of_length_le e]
  have done : ∀ (l : List Nat) (z : L2.St), ∀ x ∈ l, (wipe z l)[x]? = some none ∨ (wipe z l).length ≤ x := by
    intro l
    induction l with
    | nil => intro z x hx; cases hx
    | cons v vs ih =>
      intro z x hx
      unfold wipe
      by_cases hv : v = x
      · subst hv
        by_cases hv2 : v < (wipe z vs).length
        · exact .inl (List.getElem?_set_self hv2)
        · exact .inr (by simpa using hv2)
      · rw [List.getElem?_set_ne hv, List.length_set]
        exact ih z x ((List.mem_cons.mp hx).resolve_left (Ne.symm hv))
  exact fun own s => fix own _ (done own s)
open Classical in
noncomputable def dcM (g : MT) (t : MG Bool) (mk mv : ME) (gd : Gd) (sl : Sl) : List D → List (Key × D) → Store → R (List (Key × D) × Store)
  | [], kvs, C => if okG gd C then .ok (kvs, C) else .no
  | d :: ds, kvs, C => if okG gd C then (g d sl C).bind fun q => (t q.1 q.2).bind fun b => if b.1 = true then (mk q.1 b.2).bind fun k => (mv q.1 k.2).bind fun e => match keyOf k.1 with
      | some key => if kvs.length < sizeLine then dcM g t mk mv gd sl ds (putD kvs key e.1) e.2 else .no
      | none => .no
      else dcM g t mk mv gd sl ds kvs b.2
    else .no
noncomputable def mDc (own : List Nat) (mi : MI) (g : MT) (t : MG Bool) (mk mv : ME) : ME := fun sl C => (mi sl C).bind fun p => (R.calm (dcM g t mk mv p.1.2 (wipeS sl own) p.1.1 [] p.2)).bind fun z => .ok (.cell z.2.length, z.2 ++ [.dk z.1])
theorem dc_ok {own : List Nat} {mi : MI} {g : MT} {t : MG Bool} {mk mv : ME} : ∀ s H Q, LG (Rep K) K mg E (mDc own mi g t mk mv) s H Q → tDc (LI K mg E mi) (LT own K mg EN g) (LG PB K mg EN t) (LG (Rep K) K mg EN mk) (LG (Rep K) K mg EN mv) own s H Q := fun s H Q q => by
    obtain ⟨B, F, r, sl, C, hr, hs, o⟩ := q
    refine ⟨B, F, r, sl, C, hr, hs, Out.bind (P := fun F' r' k J => ∀ B', WalkN K B' J F' r' k) o fun k C1 F1 r1 H1 J e1 e2 hr1 hJ o1 => ?_⟩
    obtain ⟨ds, gd⟩ := k
    intro p hp
    simp only at o1
    obtain ⟨⟨out, Cn⟩, hdc, o1⟩ : ∃ z, dcM g t mk mv gd (wipeS sl own) ds [] C1 = .ok z ∧ Out (Rep K) K mg E B F1 r1 (.ok (.cell z.2.length, z.2 ++ [.dk z.1])) Q := by
      cases hl : dcM g t mk mv gd (wipeS sl own) ds [] C1 with
      | ok z => rw [hl] at o1; exact ⟨z, rfl, o1⟩
      | ex y Cy => rw [hl] at o1; exact False.elim o1
      | no => rw [hl] at o1; exact False.elim o1
    have hs1 := hs.mono e1 e2
    refine ⟨fun i n H2 => n = ds.length - i ∧ i ≤ ds.length ∧ ∃ F2 r2 C2 acc ws, Same F1 F2 ∧ Ex r1 r2 ∧ Rel K (upd B p (.dK ws)) F2 r2 H2 C2 ∧ acc.map (·.1) = ws.map (·.1) ∧ Reps K F2 r2 (acc.map (·.2)) (ws.map (·.2)) ∧ dcM g t mk mv gd (wipeS sl own) (ds.drop i) acc C2 = .ok (out, Cn),
      ⟨ds.length, by simp, Nat.zero_le _, F1, r1, C1, [], [], .refl _, .refl _, hr1.aside hp, rfl, Reps.nil, hdc⟩, ?_⟩
    rintro i n H2 ⟨rfl, hi, F2, r2, C2, acc, ws, e3, e4, hr2, hkeys, hacc, h2⟩
    have hJ := hJ (upd B p (.dK ws))
    by_cases hl : i < ds.length
    · have ed : ds[i]? = some ds[i] := List.getElem?_eq_getElem hl
      rw [List.drop_eq_getElem_cons hl] at h2
      unfold dcM at h2
      split at h2
      case isFalse => cases h2
      rename_i hok
      obtain ⟨⟨sl4, C4⟩, hg, h2⟩ := bind_okR h2
      obtain ⟨⟨bt, C5⟩, ht, h2⟩ := bind_okR h2
      refine .inr ⟨hJ.goes i F2 r2 H2 C2 hl e3 e4 hr2 hok, fun H3 => ∃ F2 r2 C2 acc ws, Same F1 F2 ∧ Ex r1 r2 ∧ Rel K (upd B p (.dK ws)) F2 r2 H3 C2 ∧ acc.map (·.1) = ws.map (·.1) ∧ Reps K F2 r2 (acc.map (·.2)) (ws.map (·.2)) ∧ dcM g t mk mv gd (wipeS sl own) (ds.drop (i + 1)) acc C2 = .ok (out, Cn),
        fun H3 h => ⟨ds.length - (i + 1), by omega, rfl, hl, h⟩, fun x H3 y => ?_⟩
      obtain ⟨F3, e5, hr3, hx⟩ := hJ.yields i _ F2 r2 H2 C2 x H3 ed e3 e4 hr2 hok y
      have hs3 : Sls K F3 r2 (wipeS sl own) (wipe s own) := Sls.wipe (hs1.mono (e3.trans e5) e4) own
      refine ⟨upd B p (.dK ws), F3, r2, wipeS sl own, C2, ds[i], hr3, hs3, hx, out_of hg fun F4 r4 H4 s4 e6 e7 hr4 hs4 => ?_⟩
      refine ⟨hs4.2.trans (wipe_twice own s), upd B p (.dK ws), F4, r4, sl4, C4, hr4, hs4.1, out_of ht fun F5 r5 H5 b e8 e9 hr5 hb => ?_⟩
      subst hb
      cases bt with
      | false =>
        rw [if_neg Bool.false_ne_true] at h2 ⊢
        exact ⟨F5, r5, C5, acc, ws, ((e3.trans e5).trans e6).trans e8, (e4.trans e7).trans e9, hr5, hkeys, hacc.mono ((e5.trans e6).trans e8) (e7.trans e9), h2⟩
      | true =>
        rw [if_pos rfl] at h2 ⊢
        obtain ⟨⟨kd, C6⟩, hm, h2⟩ := bind_okR h2
        obtain ⟨⟨ev, C7⟩, hm2, h2⟩ := bind_okR h2
        simp only at h2
        split at h2
        case h_2 => cases h2
        rename_i key hkey
        split at h2
        case isFalse => cases h2
        rename_i hz
        refine ⟨upd B p (.dK ws), F5, r5, sl4, C5, hr5, hs4.1.mono e8 e9, out_of hm fun F6 r6 H6 kv k1 k2 hr6 hk6 => ?_⟩
        refine ⟨upd B p (.dK ws), F6, r6, sl4, C6, hr6, (hs4.1.mono e8 e9).mono k1 k2, out_of hm2 fun F7 r7 H7 v k3 k4 hr7 hv => ?_⟩
        have hacc7 := hacc.mono ((((e5.trans e6).trans e8).trans k1).trans k3) (((e7.trans e9).trans k2).trans k4)
        have hlen := congrArg List.length hkeys
        rw [List.length_map, List.length_map] at hlen
        exact ⟨ws, key, keyOf_ok hk6 hkey, hr7.base p _ upd_same, by omega, F7, r7, C7, putD acc key ev, putK ws key v, ((((e3.trans e5).trans e6).trans e8).trans k1).trans k3, (((e4.trans e7).trans e9).trans k2).trans k4, hr7.asideSet, putD_keys hkeys, putD_reps hkeys hacc7 hv, h2⟩
    · have ei : i = ds.length := by omega
      subst ei
      rw [List.drop_length] at h2
      unfold dcM at h2
      split at h2
      case isFalse => cases h2
      rename_i hok
      cases h2
      refine .inl ⟨hJ.stops F2 r2 H2 _ e3 e4 hr2 hok, ?_⟩
      have hB : B p = none := Same.free hr1.base hp
      refine o1 F2 (r2 ++ [p]) H2 _ e3 (e4.trans (Ex.app r2 _)) (hr2.asideCell hB ⟨hr2.apart p _ upd_same, ws, hr2.base p _ upd_same, hkeys, hacc.mono (.refl _) (Ex.app r2 _)⟩) ⟨p, rfl, ?_⟩
      rw [← hr2.len, List.getElem?_append_right (Nat.le_refl _)]
      simp
theorem ne_dc {ifs : List Expr} {scope : Scope} (own : List (Str × Nat)) {mi : MI} {g : MT} {t : MG Bool} {mk mv : ME} (hc : X.calm = true) (hN : X.N.Nodup) (hi : NI X E tg it mi) (ok : BlkOk X.N X.env.scope scope own)
    (hg : ∀ (s : Shared) (H : Hp) (C : Addr) (cl : List (Str × Addr)) (fp : List Addr), NG (X.blk s H scope (compEnvC scope cl C X.env) fp) EN (own.map (·.2)) tg g)
    (ht : ∀ (s : Shared) (H : Hp) (C : Addr) (cl : List (Str × Addr)) (fp : List Addr), NTs (X.blk s H scope (compEnvC scope cl C X.env) fp) ifs t)
    (hk : ∀ (s : Shared) (H : Hp) (C : Addr) (cl : List (Str × Addr)) (fp : List Addr), NE (X.blk s H scope (compEnvC scope cl C X.env) fp) EN kx mk)
    (hv : ∀ (s : Shared) (H : Hp) (C : Addr) (cl : List (Str × Addr)) (fp : List Addr), NE (X.blk s H scope (compEnvC scope cl C X.env) fp) EN vx mv)
    (hs : ∀ x, foldedSetIterable it X.env x = pure x := by intro _; rfl) : NE X E (.DictComp kx vx [⟨tg, it, ifs, 0⟩] scope pos) (mDc (own.map (·.2)) mi g t mk mv) :=
  ⟨pe_imp (pe_dc (own := own) hc hN hi.pi ok (fun s H C cl fp => (hg s H C cl fp).pg) (fun s H C cl fp => (ht s H C cl fp).pt) (fun s H C cl fp => (hk s H C cl fp).pe) (fun s H C cl fp => (hv s H C cl fp).pe) hs) dc_ok⟩
end
/-! reasoning -/
section
variable {QD : D → Store → Prop} {QS : Fl → Sl → Store → Prop} {sl : Sl} {C : Store} {m mo mi mv : ME} {mas : MG (List D)} {n : Nat}
theorem w_demp (h : QD .edct C) : W (mDEmp sl C) QD := W.ok h
theorem dkAt_c {i : Nat} {kvs : List (Key × D)} (h1 : C[i]? = some (.dk kvs)) : dkAt C (.cell i) = some (i, kvs) := by unfold dkAt; simp only [h1]
theorem w_dinK {neg : Bool} (h : W (mi sl C) fun y C1 => W (mo sl C1) fun x C2 => ∃ i kvs k, x = .cell i ∧ C2[i]? = some (.dk kvs) ∧ keyOf y = some k ∧ QD (.bl (if neg then !(valD kvs k).isSome else (valD kvs k).isSome)) C2) : W (mDInK neg mi mo sl C) QD :=
  W.bind (h.imp fun y C1 h => W.bind (h.imp fun x C2 h => by
    obtain ⟨i, kvs, k, rfl, h1, h2, q⟩ := h
    simp only [dkAt_c h1, h2]
    exact W.ok q))
/-- a dict comprehension over things told by a list, with no effect -/
theorem w_dcA {A : Type} {φ : A → D} {l : List A} {g : MT} {t : MG Bool} {mk : ME} {gd : Gd} {p : A → Bool} {kf : A → Key} {vf : A → D} {Q : List (Key × D) → Store → Prop} (hg : okG gd C) (hl : l.length ≤ 1000000)
    (step : ∀ (i : Nat) (a : A), l[i]? = some a → W (g (φ a) sl C) fun sl1 C1 => W (t sl1 C1) fun b C2 => b = p a ∧ C2 = C ∧ (p a = true → W (mk sl1 C) fun y C3 => W (mv sl1 C3) fun e C4 => keyOf y = some (kf a) ∧ e = vf a ∧ C4 = C))
    (q : Q ((l.filter p).foldl (fun kvs a => putD kvs (kf a) (vf a)) []) C) : W (dcM g t mk mv gd sl (l.map φ) [] C) Q := by
  suffices h : ∀ (es : List A) (pre : List A) (kvs : List (Key × D)), l = pre ++ es → kvs.length ≤ pre.length → Q ((es.filter p).foldl (fun kvs a => putD kvs (kf a) (vf a)) kvs) C → W (dcM g t mk mv gd sl (es.map φ) kvs C) Q from
    h l [] [] rfl (Nat.le_refl _) q
  intro es
  induction es with
  | nil =>
    intro pre kvs _ _ q
    unfold dcM
    simp only [List.map_nil]
    rw [if_pos hg]
    exact W.ok q
  | cons a es ih =>
    intro pre kvs e hk q
    have ha : l[pre.length]? = some a := by rw [e]; simp
    simp only [List.map_cons]
    unfold dcM
    rw [if_pos hg]
    refine W.bind ((step _ a ha).imp fun sl1 C1 h => W.bind (h.imp fun b C2 h => ?_))
    obtain ⟨rfl, rfl, h⟩ := h
    by_cases hp : p a = true
    · simp only [hp, if_true]
      refine W.bind ((h hp).imp fun y C3 h => W.bind (W.imp h fun e2 C4 h => ?_))
      obtain ⟨h1, rfl, rfl⟩ := h
      have hlen : l.length = pre.length + (es.length + 1) := by rw [e]; simp
      simp only [h1]
      rw [if_pos (Nat.lt_of_lt_of_le (by omega : kvs.length < 10000000) (by decide))]
      refine ih (pre ++ [a]) _ (by rw [e]; simp) ?_ ?_
      · have : ∀ (kvs : List (Key × D)) k d, (putD kvs k d).length ≤ kvs.length + 1 := fun kvs k d => by
          unfold putD
          split <;> simp
        have := this kvs (kf a) (vf a)
        simp
        omega
      · rw [List.filter_cons_of_pos hp] at q
        exact q
    · simp only [hp]
      refine ih (pre ++ [a]) kvs (by rw [e]; simp) (by simp; omega) ?_
      rw [List.filter_cons_of_neg hp] at q
      exact q
theorem w_mDc {own : List Nat} {mi : MI} {g : MT} {t : MG Bool} {mk : ME} (h : W (mi sl C) fun k C1 => W (dcM g t mk mv k.2 (wipeS sl own) k.1 [] C1) fun kvs C2 => QD (.cell C2.length) (C2 ++ [.dk kvs])) : W (mDc own mi g t mk mv sl C) QD := W.bind (h.imp fun k C1 h => W.bind ((W.calm h).imp fun kvs C2 h => W.ok h))
end
end Nv

namespace Nv
open PySem PySem.Spec PyProof.Rows L2
/-! sets of whole numbers, made by a comprehension and asked at once -/
def addI (acc : List Int) (k : Int) : List Int := if acc.any (· == k) then acc else acc ++ [k]
def SiO (w : World) (a : Addr) (S : Int → Bool) (n : Nat) : HO := .ext fun h => SetR w h a S n
theorem siO_new {w : World} {P : Program} {H : Hp} {h : Heap} {a : Addr} {S : Int → Bool} {n : Nat} (R : SetR w h a S n) : ObjOk P w H h a (SiO w a S n) :=
  ⟨R, let ⟨o, _, _, _, ho, _⟩ := R; ⟨o, ho⟩, fun _ _ p k => p.at k⟩
section
variable {X : Cx}
theorem siO_get {pins : List (Addr × Obj)} {σ : L2.St} {H : Hp} {s : Shared} {a : Addr} {S : Int → Bool} {n : Nat} (I : Inv X pins σ H s) (e : H a = some (SiO X.w a S n)) : SetR X.w s.heap a S n := (I.hok a _ e).1
theorem siO_add {pins : List (Addr × Obj)} {σ : L2.St} {H : Hp} {s : Shared} {E : Value → Shared → Prop} {a : Addr} {S : Int → Bool} {n : Nat} {k : Int} {tk : Tok} {Q : Value → Shared → Prop} (I : Inv X pins σ H s) (e : H a = some (SiO X.w a S n)) (room : n + 1 < scanBound)
    (q : ∀ s', Inv X pins σ (upd H a (SiO X.w a (fun j => S j || decide (j = k)) (if S k = true then n else n + 1))) s' → Q .none s') : wpAny (model X.prog X.w) X.A (call (.builtin "set.add") [.ref a, .int k tk]) Q E s := by
  refine setR_add (siO_get I e) room fun h' sb R => q _ ?_
  have there : ∃ u, h'.get? a = some u := let ⟨o, _, _, _, ho, _⟩ := R; ⟨o, ho⟩
  exact I.write (e := a) (t' := s.toks + 1) (by rw [e]; trivial) (.inl rfl) (fun b u hb hu => (sb.2 b hb).trans hu) there (siO_new R)
/-- {elt for tg in it ..}: the new set stands at p -/
def tSi (w : World) (wi : TI) (g : TG) (tt : TT) (te : TE) (vs : List Nat) : TE := fun σ H Q => wi σ H fun J H1 => ∀ p, H1 p = none → ∃ V : Nat → Nat → Hp → Prop, (∃ m, V 0 m (upd H1 p (SiO w p (fun _ => false) 0))) ∧ ∀ i m H, V i m H →
  (J.stop i H ∧ Q (.ref p) H) ∨ (J.go i H ∧ ∃ Z : Hp → Prop, (∀ H', Z H' → ∃ m', m' < m ∧ V (i + 1) m' H') ∧ ∀ x H', J.yld i H x H' → g x (wipe σ vs) H' fun σ2 H2 => wipe σ2 vs = wipe σ vs ∧ tt σ2 H2 fun b H3 =>
    if b = true then te σ2 H3 fun y H4 => ∃ (k : Int) (S : Int → Bool) (n : Nat), y = .int k ∧ H4 p = some (SiO w p S n) ∧ n + 1 < scanBound ∧ Z (upd H4 p (SiO w p (fun j => S j || decide (j = k)) (if S k = true then n else n + 1))) else Z H3)
theorem si_core {pins : List (Addr × Obj)} {s : Shared} {σ : L2.St} {H : Hp} {Q : VK} {elt tg iter : Expr} {ifs : List Expr} {scope : Scope} {own : List (Str × Nat)} {pos pos' : Pos} {wi : TI} {g : TG} {tt : TT} {te : TE} {use : Option (Value → Sem Unit)} {Qf : Value → Shared → Prop}
    (calm : X.calm = true) (nd : X.N.Nodup) (I : Inv X pins σ H s) (pi : PI X tg iter wi) (bk : BlkOk X.N X.env.scope scope own)
    (qg : ∀ (s : Shared) (H : Hp) (C : Addr) (cl : List (Str × Addr)) (fp : List Addr), PG (X.blk s H scope (compEnvC scope cl C X.env) fp) tg g)
    (qt : ∀ (s : Shared) (H : Hp) (C : Addr) (cl : List (Str × Addr)) (fp : List Addr), PTs (X.blk s H scope (compEnvC scope cl C X.env) fp) ifs tt)
    (qe : ∀ (s : Shared) (H : Hp) (C : Addr) (cl : List (Str × Addr)) (fp : List Addr), PE (X.blk s H scope (compEnvC scope cl C X.env) fp) elt te) (unf : ∀ x, foldedSetIterable iter X.env x = pure x)
    (rd : tSi X.w wi g tt te (own.map (·.2)) σ H Q)
    (back : ∀ p C s' m H', Inv X pins σ H' s' → Q (.ref p) H' → s'.heap.Ns C m → FpOk X pins H' C → compPost (model X.prog X.w) X.A X.xe use Qf (.ref p) C (.ok .next) s') :
    wpAny (model X.prog X.w) X.A (comprehension (.SetComp elt [⟨tg, iter, ifs, 0⟩] scope pos) scope X.env pos' (newSet (.type "set")) false (eval iter X.env) use) Qf X.xe s := by
  have frees : ∀ y ∈ scope.names, y.2 = .free → ∃ c, X.env.cells.lookup y.1 = some c := fun y hy e => (bk.free y hy e).elim (fun k => I.ok.has _ (.inl k)) fun k => I.ok.has _ (.inr k)
  refine wpAny_comprehension_free (use := use) rfl unf (closure_ok frees) bk.kind (fun y hy e => by rw [bk.uniq y hy, e]) (thn (pi.run pins s σ H _ I rd) fun xv s1 hx => thn hx fun itv s2 h2 => ?_)
  obtain ⟨it, fp, tn, J, H2, rfl, I2, T, st2, f2, q⟩ := h2
  refine PpSet.newSet_ok (newEnv_comp ?_)
  generalize ep : s2.heap.objs.size = p
  obtain ⟨V, ⟨m0, v0⟩, turn⟩ := q p (I2.hok.fresh (Nat.le_of_eq ep))
  generalize e3 : ({ s2 with heap := s2.heap.push { cls := .type "set", dict := none, data := .set #[] 0 (.fresh 0 0 (!X.w.params.followText "set-order")) } } : Shared) = s3
  have I3 : Inv X pins σ (upd H2 p (SiO X.w p (fun _ => false) 0)) s3 := by
    rw [← e3]
    refine I2.laid (t' := s2.toks) (fun b o e => Heap.get?_push_of_some _ e) (Nat.le_of_eq ep) ?_
    rw [← ep]
    exact siO_new (setR_fresh X.w)
  have g3 : s3.heap = s2.heap.push { cls := .type "set", dict := none, data := .set #[] 0 (.fresh 0 0 (!X.w.params.followText "set-order")) } := by rw [← e3]
  have low : ∀ b ∈ fp, b < s2.heap.objs.size := fun b hb => let ⟨_, e, _⟩ := T.obj _ _ st2 b hb; Heap.lt_size e
  have f3 : ∀ b ∈ fp, FpOk X pins (upd H2 p (SiO X.w p (fun _ => false) 0)) b ∧ b < s3.heap.objs.size := fun b hb => by
    have hlt := low b hb
    have hbp : b ≠ p := fun z => Nat.ne_of_lt hlt (z.trans ep.symm)
    exact ⟨⟨by rw [upd_ne hbp]; exact (f2 b hb).1, (f2 b hb).2⟩, by rw [g3, Heap.size_push]; exact Nat.lt_succ_of_lt hlt⟩
  have st3 : tn 0 s3.heap := T.keep _ _ _ st2 fun b _ o e => g3 ▸ Heap.get?_push_of_some _ e
  have I4 := block_start I3 bk nd f3
  have rg := qg s3 (upd H2 p (SiO X.w p (fun _ => false) 0)) s3.heap.objs.size (cellsFrom (s3.heap.objs.size + 1) scope.names (cloFrom X.env.cells scope.names [])) fp
  have rt := qt s3 (upd H2 p (SiO X.w p (fun _ => false) 0)) s3.heap.objs.size (cellsFrom (s3.heap.objs.size + 1) scope.names (cloFrom X.env.cells scope.names [])) fp
  have re := qe s3 (upd H2 p (SiO X.w p (fun _ => false) 0)) s3.heap.objs.size (cellsFrom (s3.heap.objs.size + 1) scope.names (cloFrom X.env.cells scope.names [])) fp
  show codeAny _ _ (.compStart (.SetComp elt [⟨tg, iter, ifs, 0⟩] scope pos) 0 (.ref it) (.ref p) (compEnvC scope (cellsFrom (s3.heap.objs.size + 1) scope.names (cloFrom X.env.cells scope.names [])) s3.heap.objs.size X.env)) (compPost (model X.prog X.w) X.A X.xe use Qf (.ref p) s3.heap.objs.size) { s3 with heap := pushCells (s3.heap.push { cls := .type "dict", data := .dict #[] }) scope.names }
  have off : ∀ b ∈ fp, (upd H2 p (SiO X.w p (fun _ => false) 0)) b = none := fun b hb => (f3 b hb).1.1
  generalize ece : compEnvC scope (cellsFrom (s3.heap.objs.size + 1) scope.names (cloFrom X.env.cells scope.names [])) s3.heap.objs.size X.env = ce at I4 rg rt re ⊢
  have lce : ce.locals = s3.heap.objs.size := ece ▸ rfl
  generalize eH3 : upd H2 p (SiO X.w p (fun _ => false) 0) = H3 at I3 I4 rg rt re v0 off f3
  generalize e4 : ({ s3 with heap := pushCells (s3.heap.push { cls := .type "dict", data := .dict #[] }) scope.names } : Shared) = s4 at I4 ⊢
  have st4 : tn 0 s4.heap := T.keep _ _ _ st3 fun b _ o e => e4 ▸ pushCells_keeps _ _ _ _ (Heap.get?_push_of_some _ e)
  have apart : ∀ {σ' : L2.St} {H' : Hp} {s' : Shared}, Inv (X.blk s3 H3 scope ce fp) [] σ' H' s' → (∀ b ∈ fp, H' b = none) → ∀ b ∈ fp, FpOk (X.blk s3 H3 scope ce fp) [] H' b := fun I' no b hb =>
    ⟨no b hb, (I'.ok.exf b hb).1, I'.ok.exfs b hb, .inl hb, (I'.ok.exf b hb).2, fun z hz => absurd (show z ∈ ([] : List (Addr × Obj)) ++ [] from hz) (by simp)⟩
  have loop : codeAny (model X.prog X.w) X.A (.compLoop (.SetComp elt [⟨tg, iter, ifs, 0⟩] scope pos) 0 (.ref it) (.ref p) ce) (compPost (model X.prog X.w) X.A X.xe use Qf (.ref p) s3.heap.objs.size) s4 := by
    refine PpSet.compLoopS_any (fun n s' => ∃ i H', Inv (X.blk s3 H3 scope ce fp) [] (wipe σ (own.map (·.2))) H' s' ∧ tn i s'.heap ∧ (∀ b ∈ fp, H' b = none) ∧ V i n H') ?_ m0 ⟨0, H3, I4, st4, off, v0⟩
    rintro n s5 ⟨i, H5, I5, st5, n5, v5⟩
    rcases turn i n H5 v5 with ⟨stop, qq⟩ | ⟨go, Z, hZ, move⟩
    · refine thnF (T.done (X.blk s3 H3 scope ce fp) rfl rfl rfl calm i [] s5 _ H5 (fun _ _ => False) I5 (apart I5 n5) st5 stop) fun r s6 ⟨er, I6⟩ => ?_
      subst er
      have I7 : Inv X pins σ H5 s6 := I3.call' (ch := fp) I6.os I6.base I6.hok I6.bare fun b hb => let z := (f3 b hb).1.2; ⟨z.2.2.1, z.1, z.2.2.2.1, z.2.2.2.2⟩
      have none5 : H5 s3.heap.objs.size = none := lce ▸ (I6.free : H5 ce.locals = none)
      obtain ⟨m, nsm, _⟩ := I6.loc
      exact back p s3.heap.objs.size s6 m H5 I7 qq (lce ▸ (nsm : s6.heap.Ns ce.locals m)) (I3.fpOk (Nat.le_refl _) none5)
    · refine thnF (T.item (X.blk s3 H3 scope ce fp) rfl rfl rfl calm i [] s5 _ H5 (fun _ _ => False) I5 (apart I5 n5) st5 go) fun r s6 ⟨u, er, h6⟩ => ?_
      subst er
      refine thnF h6 fun _ s7 ⟨x, H7, I7, r7, y7, st7, n7⟩ => ?_
      refine thnF (rg.run _ s7 _ H7 x u _ (I7.pinned (apart I7 n7) (T.obj _ _ st7)) r7 (move x H7 y7)) fun _ s8 ⟨σ8, H8, I8, w8, q8⟩ => ?_
      refine thnF (rt.run _ s8 σ8 H8 _ I8 q8) fun b s9 ⟨H9, I9, q9⟩ => ?_
      have close : ∀ {s' : Shared} {H' : Hp}, Inv (X.blk s3 H3 scope ce fp) ([] ++ pinsAt fp s7.heap) σ8 H' s' → Z H' → ∃ m, m < n ∧ ∃ i H', Inv (X.blk s3 H3 scope ce fp) [] (wipe σ (own.map (·.2))) H' s' ∧ tn i s'.heap ∧ (∀ b ∈ fp, H' b = none) ∧ V i m H' := fun {s' H'} I' z => by
        obtain ⟨m', hm, v'⟩ := hZ H' z
        have pin : ∀ b ∈ fp, ∀ o, s7.heap.get? b = some o → s'.heap.get? b = some o ∧ H' b = none := fun b hb o e =>
          let k := I'.pin (b, o) (List.mem_append_right _ (List.mem_append_right _ (mem_pinsAt hb e)))
          ⟨k.1, k.2.1⟩
        refine ⟨m', hm, i + 1, H', (I'.unpinned (pins := [])).weak (by rw [← w8, wipe_length]) (fun j v e => (wipe_some (w8 ▸ e)).1), T.keep _ _ _ st7 fun b hb o e => (pin b hb o e).1, fun b hb => ?_, v'⟩
        exact let ⟨o, e, _⟩ := T.obj _ _ st7 b hb; (pin b hb o e).2
      cases b with
      | false =>
        rw [if_neg Bool.false_ne_true] at q9 ⊢
        exact close I9 q9
      | true =>
        rw [if_pos rfl] at q9 ⊢
        refine thnF (re.run _ s9 σ8 H9 _ I9 q9) fun z s10 ⟨yv, H10, I10, r10, k, S0, n0, ey, at10, room, nx⟩ => ?_
        subst ey
        obtain ⟨tk, rfl⟩ : ∃ tk, z = Value.int k tk := r10
        exact siO_add (X := X.blk s3 H3 scope ce fp) I10 at10 room fun s11 I11 => close I11 nx
  exact PpSet.codeAny_compStart_set loop (T.self X.A 0 _ _ _ st4 loop)
theorem pe_si {elt tg iter : Expr} {ifs : List Expr} {scope : Scope} {own : List (Str × Nat)} {pos : Pos} {wi : TI} {g : TG} {tt : TT} {te : TE} (calm : X.calm = true) (nd : X.N.Nodup) (pi : PI X tg iter wi) (bk : BlkOk X.N X.env.scope scope own)
    (qg : ∀ (s : Shared) (H : Hp) (C : Addr) (cl : List (Str × Addr)) (fp : List Addr), PG (X.blk s H scope (compEnvC scope cl C X.env) fp) tg g)
    (qt : ∀ (s : Shared) (H : Hp) (C : Addr) (cl : List (Str × Addr)) (fp : List Addr), PTs (X.blk s H scope (compEnvC scope cl C X.env) fp) ifs tt)
    (qe : ∀ (s : Shared) (H : Hp) (C : Addr) (cl : List (Str × Addr)) (fp : List Addr), PE (X.blk s H scope (compEnvC scope cl C X.env) fp) elt te) (unf : ∀ x, foldedSetIterable iter X.env x = pure x := by intro _; rfl) :
    PE X (.SetComp elt [⟨tg, iter, ifs, 0⟩] scope pos) (tSi X.w wi g tt te (own.map (·.2))) := ⟨fun pins s σ H Q I h => by
  rw [PpSet.eval_SetComp]
  exact si_core calm nd I pi bk qg qt qe unf h fun p C s' m H' I' q ns f => ⟨m, ns, fun h'' sb =>
    ⟨.ref p, H', I'.turned (t' := s'.toks) (fun b o hb e => (sb.2 b hb).trans e) f.1 f.2.1 f.2.2.2.1 f.2.2.2.2.1 f.2.2.2.2.2, rfl, q⟩⟩⟩
/-- len of such a set -/
def rLenSi (w : World) : List V → Hp → VK → Prop := fun xs H Q => ∃ a S n, xs = [V.ref a] ∧ H a = some (SiO w a S n) ∧ Q (.int n) H
theorem call_lenSi : CallR X (.builtin "len") (rLenSi X.w) := fun pins s σ H xs us Q I r h => by
  obtain ⟨a, S, n, rfl, ha, q⟩ := h
  obtain ⟨u, rfl, ru⟩ := vals1 r
  cases ru
  obtain ⟨o, es, ep, t, ho, hex, hd, _, _, _, hlt, hf, hn, _⟩ := siO_get I ha
  have small : es.size < 4096 := hlt
  exact call_len_set ho hex hd hf (by omega) ⟨.int n, H, I.tok _, ⟨_, by rw [hn]⟩, q⟩
end
section
variable {K : PySem.W.Frag} {mg : Str → Option Value} {E : XK} {X : Cx} {tg it elt : Expr} {pos p1 p2 : Pos}
open Classical in
noncomputable def scM (g : MT) (t : MG Bool) (m : ME) (gd : Gd) (sl : Sl) : List D → List Int → Store → R (List Int × Store)
  | [], acc, C => if okG gd C then .ok (acc, C) else .no
  | d :: ds, acc, C => if okG gd C then (g d sl C).bind fun q => (t q.1 q.2).bind fun b => if b.1 = true then (m q.1 b.2).bind fun e => match e.1 with
      | .int k => if acc.length < 4000 then scM g t m gd sl ds (addI acc k) e.2 else .no
      | _ => .no
      else scM g t m gd sl ds acc b.2
    else .no
noncomputable def mSc (fin : List Int → Store → RE) (own : List Nat) (mi : MI) (g : MT) (t : MG Bool) (m : ME) : ME := fun sl C => (mi sl C).bind fun p => (R.calm (scM g t m p.1.2 (wipeS sl own) p.1.1 [] p.2)).bind fun z => fin z.1 z.2
theorem addI_any (acc : List Int) (k j : Int) : (addI acc k).any (· == j) = (acc.any (· == j) || decide (j = k)) := by
  unfold addI
  by_cases h : acc.any (· == k) = true
  · rw [if_pos h]
    by_cases e : j = k
    · subst e
      rw [h]
      rfl
    · rw [decide_eq_false e, Bool.or_false]
  · rw [if_neg h, List.any_append]
    congr 1
    by_cases e : j = k
    · simp [e]
    · rw [decide_eq_false e]
      simp
      exact fun z => e z.symm
theorem addI_len (acc : List Int) (k : Int) : (addI acc k).length = if acc.any (· == k) = true then acc.length else acc.length + 1 := by
  unfold addI
  split <;> simp
theorem sc_ok {fin : List Int → Store → RE} {own : List Nat} {mi : MI} {g : MT} {t : MG Bool} {m : ME} {s : L2.St} {H : Hp} {Q Q2 : VK}
    (hfin : ∀ (B F : Hp) (r : List Addr) (H : Hp) (C : Store) (acc : List Int) (p : Addr), B p = none → Rel K (upd B p (SiO X.w p (fun j => acc.any (· == j)) acc.length)) F r H C → H p = some (SiO X.w p (fun j => acc.any (· == j)) acc.length) → Out (Rep K) K mg E B F r (fin acc C) Q → Q2 (.ref p) H)
    (q : LG (Rep K) K mg E (mSc fin own mi g t m) s H Q) : tSi X.w (LI K mg E mi) (LT own K mg EN g) (LG PB K mg EN t) (LG (Rep K) K mg EN m) own s H Q2 := by
    obtain ⟨B, F, r, sl, C, hr, hs, o⟩ := q
    refine ⟨B, F, r, sl, C, hr, hs, Out.bind (P := fun F' r' k J => ∀ B', WalkN K B' J F' r' k) o fun k C1 F1 r1 H1 J e1 e2 hr1 hJ o1 => ?_⟩
    obtain ⟨ds, gd⟩ := k
    intro p hp
    simp only at o1
    obtain ⟨⟨out, Cn⟩, hsc, o1⟩ : ∃ z, scM g t m gd (wipeS sl own) ds [] C1 = .ok z ∧ Out (Rep K) K mg E B F1 r1 (fin z.1 z.2) Q := by
      cases hl : scM g t m gd (wipeS sl own) ds [] C1 with
      | ok z => rw [hl] at o1; exact ⟨z, rfl, o1⟩
      | ex y Cy => rw [hl] at o1; exact False.elim o1
      | no => rw [hl] at o1; exact False.elim o1
    have hs1 := hs.mono e1 e2
    refine ⟨fun i n H2 => n = ds.length - i ∧ i ≤ ds.length ∧ ∃ F2 r2 C2 acc, Same F1 F2 ∧ Ex r1 r2 ∧ Rel K (upd B p (SiO X.w p (fun j => acc.any (· == j)) acc.length)) F2 r2 H2 C2 ∧ scM g t m gd (wipeS sl own) (ds.drop i) acc C2 = .ok (out, Cn),
      ⟨ds.length, by simp, Nat.zero_le _, F1, r1, C1, [], .refl _, .refl _, hr1.aside hp, hsc⟩, ?_⟩
    rintro i n H2 ⟨rfl, hi, F2, r2, C2, acc, e3, e4, hr2, h2⟩
    have hJ := hJ (upd B p (SiO X.w p (fun j => acc.any (· == j)) acc.length))
    by_cases hl : i < ds.length
    · have ed : ds[i]? = some ds[i] := List.getElem?_eq_getElem hl
      rw [List.drop_eq_getElem_cons hl] at h2
      unfold scM at h2
      split at h2
      case isFalse => cases h2
      rename_i hok
      obtain ⟨⟨sl4, C4⟩, hg, h2⟩ := bind_okR h2
      obtain ⟨⟨bt, C5⟩, ht, h2⟩ := bind_okR h2
      refine .inr ⟨hJ.goes i F2 r2 H2 C2 hl e3 e4 hr2 hok, fun H3 => ∃ F2 r2 C2 acc, Same F1 F2 ∧ Ex r1 r2 ∧ Rel K (upd B p (SiO X.w p (fun j => acc.any (· == j)) acc.length)) F2 r2 H3 C2 ∧ scM g t m gd (wipeS sl own) (ds.drop (i + 1)) acc C2 = .ok (out, Cn),
        fun H3 h => ⟨ds.length - (i + 1), by omega, rfl, hl, h⟩, fun x H3 y => ?_⟩
      obtain ⟨F3, e5, hr3, hx⟩ := hJ.yields i _ F2 r2 H2 C2 x H3 ed e3 e4 hr2 hok y
      have hs3 : Sls K F3 r2 (wipeS sl own) (wipe s own) := Sls.wipe (hs1.mono (e3.trans e5) e4) own
      refine ⟨upd B p (SiO X.w p (fun j => acc.any (· == j)) acc.length), F3, r2, wipeS sl own, C2, ds[i], hr3, hs3, hx, out_of hg fun F4 r4 H4 s4 e6 e7 hr4 hs4 => ?_⟩
      refine ⟨hs4.2.trans (wipe_twice own s), upd B p (SiO X.w p (fun j => acc.any (· == j)) acc.length), F4, r4, sl4, C4, hr4, hs4.1, out_of ht fun F5 r5 H5 b e8 e9 hr5 hb => ?_⟩
      subst hb
      cases bt with
      | false =>
        rw [if_neg Bool.false_ne_true] at h2 ⊢
        exact ⟨F5, r5, C5, acc, ((e3.trans e5).trans e6).trans e8, (e4.trans e7).trans e9, hr5, h2⟩
      | true =>
        rw [if_pos rfl] at h2 ⊢
        obtain ⟨⟨ev, C6⟩, hm, h2⟩ := bind_okR h2
        simp only at h2
        split at h2
        case h_2 => cases h2
        rename_i k
        split at h2
        case isFalse => cases h2
        rename_i hz
        refine ⟨upd B p (SiO X.w p (fun j => acc.any (· == j)) acc.length), F5, r5, sl4, C5, hr5, hs4.1.mono e8 e9, out_of hm fun F6 r6 H6 v k1 k2 hr6 hv => ?_⟩
        refine ⟨k, fun j => acc.any (· == j), acc.length, hv, hr6.base p _ upd_same, by show acc.length + 1 < 4096; omega, F6, r6, C6, addI acc k, (((e3.trans e5).trans e6).trans e8).trans k1, ((e4.trans e7).trans e9).trans k2, ?_, h2⟩
        rw [show (fun j => (addI acc k).any (· == j)) = fun j => (acc.any (· == j) || decide (j = k)) from funext fun j => addI_any acc k j, addI_len]
        exact hr6.asideSet
    · have ei : i = ds.length := by omega
      subst ei
      rw [List.drop_length] at h2
      unfold scM at h2
      split at h2
      case isFalse => cases h2
      rename_i hok
      cases h2
      exact .inl ⟨hJ.stops F2 r2 H2 _ e3 e4 hr2 hok, hfin B F2 r2 H2 Cn out p (Same.free hr1.base hp) hr2 (hr2.base p _ upd_same) (Out.mono o1 e3 e4)⟩
def gLenSc (acc : List Int) (C : Store) : RE := .ok (.int acc.length, C)
theorem ne_lenSc {ifs : List Expr} {scope : Scope} (own : List (Str × Nat)) {mi : MI} {g : MT} {t : MG Bool} {m : ME} (hlen : X.mg "len" = none) (hc : X.calm = true) (hN : X.N.Nodup) (hi : NI X E tg it mi) (ok : BlkOk X.N X.env.scope scope own)
    (hg : ∀ (s : Shared) (H : Hp) (C : Addr) (cl : List (Str × Addr)) (fp : List Addr), NG (X.blk s H scope (compEnvC scope cl C X.env) fp) EN (own.map (·.2)) tg g)
    (ht : ∀ (s : Shared) (H : Hp) (C : Addr) (cl : List (Str × Addr)) (fp : List Addr), NTs (X.blk s H scope (compEnvC scope cl C X.env) fp) ifs t)
    (he : ∀ (s : Shared) (H : Hp) (C : Addr) (cl : List (Str × Addr)) (fp : List Addr), NE (X.blk s H scope (compEnvC scope cl C X.env) fp) EN elt m)
    (hs : ∀ x, foldedSetIterable it X.env x = pure x := by intro _; rfl) (hgl : Gl X "len" := by rfl)
    (hst : starEach [Expr.SetComp elt [⟨tg, it, ifs, 0⟩] scope p2] X.env = (false, eval (.SetComp elt [⟨tg, it, ifs, 0⟩] scope p2) X.env) :: starEach [] X.env := by rfl) (hpl : (backTo pos (starEach [] X.env)).any (·.1) = false := by rfl) :
    NE X E (.Call (.Name "len" p1) [.SetComp elt [⟨tg, it, ifs, 0⟩] scope p2] [] pos) (mSc gLenSc (own.map (·.2)) mi g t m) :=
  ⟨pe_imp (pe_callB call_lenSi hgl hlen boot_len (pa_cons (pe_si (own := own) (wi := LI X.K X.mg E mi) (g := LT (own.map (·.2)) X.K X.mg EN g) (tt := LG PB X.K X.mg EN t) (te := LG (Rep X.K) X.K X.mg EN m) hc hN hi.pi ok (fun s H C cl fp => (hg s H C cl fp).pg) (fun s H C cl fp => (ht s H C cl fp).pt) (fun s H C cl fp => (he s H C cl fp).pe) hs) pa_nil hst) (by decide) (by decide) hst hpl) fun s H Q q => by
    exact sc_ok (X := X) (Q := Q) (Q2 := fun v H1 => rLenSi X.w [v] H1 Q) (fun B F r H C acc p hB hr hp o => by
      obtain ⟨k1, k2⟩ := hr.asideFreeze hB
      exact ⟨p, _, _, rfl, hp, o _ r H (.int acc.length) k2 (.refl _) k1 rfl⟩) q⟩
end
section
variable {X : Cx}
end
section
variable {K : PySem.W.Frag} {mg : Str → Option Value} {E : XK} {X : Cx} {a : Expr} {ma : ME} {pos p1 p2 q1 : Pos}
end
/-! reasoning -/
section
variable {QD : D → Store → Prop} {sl : Sl} {C : Store} {m : ME} {A : Type} {φ : A → D}
theorem w_mSc {fin : List Int → Store → RE} {own : List Nat} {mi : MI} {g : MT} {t : MG Bool} (h : W (mi sl C) fun k C1 => W (scM g t m k.2 (wipeS sl own) k.1 [] C1) fun acc C2 => W (fin acc C2) QD) : W (mSc fin own mi g t m sl C) QD := W.bind (h.imp fun k C1 h => W.bind (W.calm h))
theorem w_lenSc {acc : List Int} (q : QD (.int acc.length) C) : W (gLenSc acc C) QD := W.ok q
theorem w_scA {l : List A} {g : MT} {t : MG Bool} {gd : Gd} {p : A → Bool} {f : A → Int} {Q : List Int → Store → Prop} (hg : okG gd C) (hl : l.length ≤ 3000)
    (step : ∀ (i : Nat) (a : A), l[i]? = some a → W (g (φ a) sl C) fun sl1 C1 => W (t sl1 C1) fun b C2 => b = p a ∧ C2 = C ∧ (p a = true → W (m sl1 C) fun e C3 => e = .int (f a) ∧ C3 = C))
    (q : Q (((l.filter p).map f).foldl addI []) C) : W (scM g t m gd sl (l.map φ) [] C) Q := by
  suffices h : ∀ (es pre : List A) (acc : List Int), l = pre ++ es → acc.length ≤ pre.length → Q (((es.filter p).map f).foldl addI acc) C → W (scM g t m gd sl (es.map φ) acc C) Q from h l [] [] rfl (Nat.le_refl _) q
  intro es
  induction es with
  | nil =>
    intro pre acc _ _ q
    unfold scM
    simp only [List.map_nil]
    rw [if_pos hg]
    exact W.ok q
  | cons a es ih =>
    intro pre acc e hk q
    have ha : l[pre.length]? = some a := by rw [e]; simp
    have hlen : l.length = pre.length + (es.length + 1) := by rw [e]; simp
    simp only [List.map_cons]
    unfold scM
    rw [if_pos hg]
    refine W.bind ((step _ a ha).imp fun sl1 C1 h => W.bind (h.imp fun b C2 h => ?_))
    obtain ⟨rfl, rfl, h⟩ := h
    by_cases hp : p a = true
    · simp only [hp, if_true]
      refine W.bind ((h hp).imp fun y C3 h => ?_)
      obtain ⟨rfl, rfl⟩ := h
      simp only
      rw [if_pos (by omega)]
      refine ih (pre ++ [a]) _ (by rw [e]; simp) ?_ ?_
      · rw [addI_len, List.length_append]
        split <;> simp <;> omega
      · rw [List.filter_cons_of_pos hp] at q
        exact q
    · simp only [hp]
      refine ih (pre ++ [a]) acc (by rw [e]; simp) (by simp; omega) ?_
      rw [List.filter_cons_of_neg hp] at q
      exact q
end
end Nv

namespace Nv
open PySem PySem.Spec PyProof.Rows L2
/-! a list comprehension of two fors -/
open Classical in
noncomputable def lc2I (g : MT) (t : MG Bool) (m : ME) (gd : Gd) (sl : Sl) : List D → List D → Store → R (List D × Store)
  | [], acc, C => if okG gd C then .ok (acc, C) else .no
  | d :: ds, acc, C => if okG gd C then (g d sl C).bind fun q => (t q.1 q.2).bind fun b => if b.1 = true then (m q.1 b.2).bind fun e => if acc.length < sizeLine then lc2I g t m gd sl ds (acc ++ [e.1]) e.2 else .no
      else lc2I g t m gd sl ds acc b.2
    else .no
open Classical in
noncomputable def lc2M (vs1 : List Nat) (g : MT) (t : MG Bool) (mi1 : MI) (g1 : MT) (t1 : MG Bool) (m : ME) (gd : Gd) (sl : Sl) : List D → List D → Store → R (List D × Store)
  | [], acc, C => if okG gd C then .ok (acc, C) else .no
  | d :: ds, acc, C => if okG gd C then (g d sl C).bind fun q => (t q.1 q.2).bind fun b => if b.1 = true then (mi1 q.1 b.2).bind fun k => (lc2I g1 t1 m k.1.2 (wipeS q.1 vs1) k.1.1 acc k.2).bind fun z => lc2M vs1 g t mi1 g1 t1 m gd sl ds z.1 z.2
      else lc2M vs1 g t mi1 g1 t1 m gd sl ds acc b.2
    else .no
noncomputable def mLc2 (c : Bool) (own vs1 : List Nat) (mi : MI) (g : MT) (t : MG Bool) (mi1 : MI) (g1 : MT) (t1 : MG Bool) (m : ME) : ME := fun sl C => (mi sl C).bind fun p =>
  (R.calm (lc2M vs1 g t mi1 g1 t1 m p.1.2 (wipeS sl own) p.1.1 [] p.2)).bind fun z => newL c z.1 z.2
section
variable {K : PySem.W.Frag} {mg : Str → Option Value} {E : XK} {X : Cx} {tg it tg1 it1 elt : Expr} {pos : Pos}
theorem lc2_ok {cb : Bool} {own vs1 : List Nat} {mi mi1 : MI} {g g1 : MT} {t t1 : MG Bool} {m : ME} : ∀ s H Q, LG (Rep K) K mg E (mLc2 cb own vs1 mi g t mi1 g1 t1 m) s H Q → tLc2 (LI K mg E mi) (LT own K mg EN g) (LG PB K mg EN t) (LI K mg EN mi1) (LT vs1 K mg EN g1) (LG PB K mg EN t1) (LG (Rep K) K mg EN m) own vs1 s H Q := fun s H Q q => by
    obtain ⟨B, F, r, sl, C, hr, hs, o⟩ := q
    refine ⟨B, F, r, sl, C, hr, hs, Out.bind (P := fun F' r' k J => ∀ B', WalkN K B' J F' r' k) o fun k C1 F1 r1 H1 J e1 e2 hr1 hJ o1 => ?_⟩
    obtain ⟨ds, gd⟩ := k
    intro p hp
    simp only at o1
    obtain ⟨⟨out, Cn⟩, hlc, o1⟩ : ∃ z, lc2M vs1 g t mi1 g1 t1 m gd (wipeS sl own) ds [] C1 = .ok z ∧ Out (Rep K) K mg E B F1 r1 (newL cb z.1 z.2) Q := by
      cases hl : lc2M vs1 g t mi1 g1 t1 m gd (wipeS sl own) ds [] C1 with
      | ok z => rw [hl] at o1; exact ⟨z, rfl, o1⟩
      | ex y Cy => rw [hl] at o1; exact False.elim o1
      | no => rw [hl] at o1; exact False.elim o1
    have hs1 := hs.mono e1 e2
    refine ⟨fun i n H2 => n = ds.length - i ∧ i ≤ ds.length ∧ ∃ F2 r2 C2 acc vs, Same F1 F2 ∧ Ex r1 r2 ∧ Rel K (upd B p (.lst vs)) F2 r2 H2 C2 ∧ Reps K F2 r2 acc vs ∧ lc2M vs1 g t mi1 g1 t1 m gd (wipeS sl own) (ds.drop i) acc C2 = .ok (out, Cn),
      ⟨ds.length, by simp, Nat.zero_le _, F1, r1, C1, [], [], .refl _, .refl _, hr1.aside hp, .nil, hlc⟩, ?_⟩
    rintro i n H2 ⟨rfl, hi, F2, r2, C2, acc, vs, e3, e4, hr2, hacc, h2⟩
    have hJ := hJ (upd B p (.lst vs))
    by_cases hl : i < ds.length
    · have ed : ds[i]? = some ds[i] := List.getElem?_eq_getElem hl
      rw [List.drop_eq_getElem_cons hl] at h2
      unfold lc2M at h2
      split at h2
      case isFalse => cases h2
      rename_i hok
      obtain ⟨⟨sl4, C4⟩, hg, h2⟩ := bind_okR h2
      obtain ⟨⟨bt, C5⟩, ht, h2⟩ := bind_okR h2
      refine .inr ⟨hJ.goes i F2 r2 H2 C2 hl e3 e4 hr2 hok, fun H3 => ∃ F2 r2 C2 acc vs, Same F1 F2 ∧ Ex r1 r2 ∧ Rel K (upd B p (.lst vs)) F2 r2 H3 C2 ∧ Reps K F2 r2 acc vs ∧ lc2M vs1 g t mi1 g1 t1 m gd (wipeS sl own) (ds.drop (i + 1)) acc C2 = .ok (out, Cn),
        fun H3 h => ⟨ds.length - (i + 1), by omega, rfl, hl, h⟩, fun x H3 y => ?_⟩
      obtain ⟨F3, e5, hr3, hx⟩ := hJ.yields i _ F2 r2 H2 C2 x H3 ed e3 e4 hr2 hok y
      have hs3 : Sls K F3 r2 (wipeS sl own) (wipe s own) := Sls.wipe (hs1.mono (e3.trans e5) e4) own
      refine ⟨upd B p (.lst vs), F3, r2, wipeS sl own, C2, ds[i], hr3, hs3, hx, out_of hg fun F4 r4 H4 s4 e6 e7 hr4 hs4 => ?_⟩
      refine ⟨hs4.2.trans (wipe_twice own s), upd B p (.lst vs), F4, r4, sl4, C4, hr4, hs4.1, out_of ht fun F5 r5 H5 b e8 e9 hr5 hb => ?_⟩
      subst hb
      have f15 : Same F1 F5 := ((e3.trans e5).trans e6).trans e8
      have r15 : Ex r1 r5 := (e4.trans e7).trans e9
      have acc5 := hacc.mono ((e5.trans e6).trans e8) (e7.trans e9)
      cases bt with
      | false =>
        rw [if_neg Bool.false_ne_true] at h2 ⊢
        exact ⟨F5, r5, C5, acc, vs, f15, r15, hr5, acc5, h2⟩
      | true =>
        rw [if_pos rfl] at h2 ⊢
        obtain ⟨⟨⟨ds1, gd1⟩, C6⟩, hmi, h2⟩ := bind_okR h2
        obtain ⟨z, hz, h2⟩ := bind_okR h2
        simp only at hz h2
        refine ⟨upd B p (.lst vs), F5, r5, sl4, C5, hr5, hs4.1.mono e8 e9, out_of (P := fun F' r' k J => ∀ B', WalkN K B' J F' r' k) hmi fun F6 r6 H6 J1 k1 k2 hr6 hJ1 => ?_⟩
        have hs6 := (hs4.1.mono e8 e9).mono k1 k2
        refine ⟨fun j n H7 => n = ds1.length - j ∧ j ≤ ds1.length ∧ ∃ F7 r7 C7 acc vs, Same F6 F7 ∧ Ex r6 r7 ∧ Rel K (upd B p (.lst vs)) F7 r7 H7 C7 ∧ Reps K F7 r7 acc vs ∧ lc2I g1 t1 m gd1 (wipeS sl4 vs1) (ds1.drop j) acc C7 = .ok z,
          ⟨ds1.length, by simp, Nat.zero_le _, F6, r6, C6, acc, vs, .refl _, .refl _, hr6, acc5.mono k1 k2, hz⟩, ?_⟩
        rintro j n H7 ⟨rfl, hj, F7, r7, C7, acc7, vs7, m1, m2, hr7, hacc7, h7⟩
        have hJ1 := hJ1 (upd B p (.lst vs7))
        by_cases hl1 : j < ds1.length
        · have ed1 : ds1[j]? = some ds1[j] := List.getElem?_eq_getElem hl1
          rw [List.drop_eq_getElem_cons hl1] at h7
          unfold lc2I at h7
          split at h7
          case isFalse => cases h7
          rename_i hok1
          obtain ⟨⟨sl8, C8⟩, hg1, h7⟩ := bind_okR h7
          obtain ⟨⟨bt1, C9⟩, ht1, h7⟩ := bind_okR h7
          refine .inr ⟨hJ1.goes j F7 r7 H7 C7 hl1 m1 m2 hr7 hok1, fun H8 => ∃ F7 r7 C7 acc vs, Same F6 F7 ∧ Ex r6 r7 ∧ Rel K (upd B p (.lst vs)) F7 r7 H8 C7 ∧ Reps K F7 r7 acc vs ∧ lc2I g1 t1 m gd1 (wipeS sl4 vs1) (ds1.drop (j + 1)) acc C7 = .ok z,
            fun H8 h => ⟨ds1.length - (j + 1), by omega, rfl, hl1, h⟩, fun x1 H8 y1 => ?_⟩
          obtain ⟨F8, m3, hr8, hx1⟩ := hJ1.yields j _ F7 r7 H7 C7 x1 H8 ed1 m1 m2 hr7 hok1 y1
          have hs8 : Sls K F8 r7 (wipeS sl4 vs1) (wipe s4 vs1) := Sls.wipe (hs6.mono (m1.trans m3) m2) vs1
          refine ⟨upd B p (.lst vs7), F8, r7, wipeS sl4 vs1, C7, ds1[j], hr8, hs8, hx1, out_of hg1 fun F9 r9 H9 s9 m4 m5 hr9 hs9 => ?_⟩
          refine ⟨hs9.2.trans (wipe_twice vs1 s4), upd B p (.lst vs7), F9, r9, sl8, C8, hr9, hs9.1, out_of ht1 fun F10 r10 H10 b m6 m7 hr10 hb => ?_⟩
          subst hb
          have f610 : Same F6 F10 := ((m1.trans m3).trans m4).trans m6
          have r610 : Ex r6 r10 := (m2.trans m5).trans m7
          have acc10 := hacc7.mono ((m3.trans m4).trans m6) (m5.trans m7)
          cases bt1 with
          | false =>
            rw [if_neg Bool.false_ne_true] at h7 ⊢
            exact ⟨F10, r10, C9, acc7, vs7, f610, r610, hr10, acc10, h7⟩
          | true =>
            rw [if_pos rfl] at h7 ⊢
            obtain ⟨⟨ev, C11⟩, hm, h7⟩ := bind_okR h7
            split at h7
            case isFalse => cases h7
            rename_i hsz
            refine ⟨upd B p (.lst vs7), F10, r10, sl8, C9, hr10, hs9.1.mono m6 m7, out_of hm fun F11 r11 H11 v m8 m9 hr11 hv => ?_⟩
            have acc11 := acc10.mono m8 m9
            refine ⟨vs7, hr11.base p _ upd_same, ?_, F11, r11, C11, acc7 ++ [ev], vs7 ++ [v], f610.trans m8, r610.trans m9, hr11.asideSet, acc11.append (.one hv), h7⟩
            rw [← acc11.length]
            exact hsz
        · have ej : j = ds1.length := by omega
          subst ej
          rw [List.drop_length] at h7
          unfold lc2I at h7
          split at h7
          case isFalse => cases h7
          rename_i hok1
          cases h7
          exact .inl ⟨hJ1.stops F7 r7 H7 _ m1 m2 hr7 hok1, F7, r7, _, _, vs7, (f15.trans k1).trans m1, (r15.trans k2).trans m2, hr7, hacc7, h2⟩
    · have ei : i = ds.length := by omega
      subst ei
      rw [List.drop_length] at h2
      unfold lc2M at h2
      split at h2
      case isFalse => cases h2
      rename_i hok
      cases h2
      refine .inl ⟨hJ.stops F2 r2 H2 _ e3 e4 hr2 hok, ?_⟩
      have hB : B p = none := Same.free hr1.base hp
      unfold newL at o1
      cases cb with
      | true =>
        rw [if_pos rfl] at o1
        refine o1 F2 (r2 ++ [p]) H2 _ e3 (e4.trans (Ex.app r2 _)) (hr2.asideCell hB ⟨hr2.apart p _ upd_same, vs, hr2.base p _ upd_same, hacc.mono (.refl _) (Ex.app r2 _)⟩) ⟨p, rfl, ?_⟩
        rw [← hr2.len, List.getElem?_append_right (Nat.le_refl _)]
        simp
      | false =>
        rw [if_neg Bool.false_ne_true] at o1
        obtain ⟨k1, k2⟩ := hr2.asideFreeze hB
        exact o1 (upd F2 p (.lst vs)) r2 H2 _ (e3.trans k2) e4 k1 ⟨p, vs, rfl, .inl (.inl upd_same), hacc.mono k2 (.refl _)⟩
theorem ne_lc2 {cb : Bool} {ifs ifs1 : List Expr} {scope : Scope} (own : List (Str × Nat)) (vs1 : List Nat) {mi mi1 : MI} {g g1 : MT} {t t1 : MG Bool} {m : ME} (hc : X.calm = true) (hN : X.N.Nodup) (hi : NI X E tg it mi) (ok : BlkOk X.N X.env.scope scope own)
    (hg : ∀ (s : Shared) (H : Hp) (C : Addr) (cl : List (Str × Addr)) (fp : List Addr), NG (X.blk s H scope (compEnvC scope cl C X.env) fp) EN (own.map (·.2)) tg g)
    (ht : ∀ (s : Shared) (H : Hp) (C : Addr) (cl : List (Str × Addr)) (fp : List Addr), NTs (X.blk s H scope (compEnvC scope cl C X.env) fp) ifs t)
    (hi1 : ∀ (s : Shared) (H : Hp) (C : Addr) (cl : List (Str × Addr)) (fp : List Addr), NI (X.blk s H scope (compEnvC scope cl C X.env) fp) EN tg1 it1 mi1)
    (hg1 : ∀ (s : Shared) (H : Hp) (C : Addr) (cl : List (Str × Addr)) (fp : List Addr), NG (X.blk s H scope (compEnvC scope cl C X.env) fp) EN vs1 tg1 g1)
    (ht1 : ∀ (s : Shared) (H : Hp) (C : Addr) (cl : List (Str × Addr)) (fp : List Addr), NTs (X.blk s H scope (compEnvC scope cl C X.env) fp) ifs1 t1)
    (he : ∀ (s : Shared) (H : Hp) (C : Addr) (cl : List (Str × Addr)) (fp : List Addr), NE (X.blk s H scope (compEnvC scope cl C X.env) fp) EN elt m)
    (hv : ∀ i ∈ vs1, i ∈ own.map (·.2) := by decide) (hs : ∀ x, foldedSetIterable it X.env x = pure x := by intro _; rfl) (hs1 : ∀ env x, foldedSetIterable it1 env x = pure x := by intro _ _; rfl) : NE X E (.ListComp elt [⟨tg, it, ifs, 0⟩, ⟨tg1, it1, ifs1, 0⟩] scope pos) (mLc2 cb (own.map (·.2)) vs1 mi g t mi1 g1 t1 m) :=
  ⟨pe_imp (pe_lc2 (own := own) hc hN hi.pi ok hv (fun s H C cl fp => (hg s H C cl fp).pg) (fun s H C cl fp => (ht s H C cl fp).pt) (fun s H C cl fp => (hi1 s H C cl fp).pi) (fun s H C cl fp => (hg1 s H C cl fp).pg) (fun s H C cl fp => (ht1 s H C cl fp).pt) (fun s H C cl fp => (he s H C cl fp).pe) hs hs1) lc2_ok⟩
end
section
variable {C : Store} {QD : D → Store → Prop} {sl : Sl} {m : ME} {A : Type} {φ : A → D}
theorem w_lc2N {g : MT} {t : MG Bool} {gd : Gd} {acc : List D} {Q : List D → Store → Prop} (hg : okG gd C) (h : Q acc C) : W (lc2I g t m gd sl [] acc C) Q := by
  unfold lc2I
  rw [if_pos hg]
  exact W.ok h
theorem w_lc2C {g : MT} {t : MG Bool} {gd : Gd} {acc ds : List D} {d : D} {Q : List D → Store → Prop} (hg : okG gd C) (h : W (g d sl C) fun sl1 C1 => W (t sl1 C1) fun b C2 => if b = true then W (m sl1 C2) fun e C3 => acc.length < sizeLine ∧ W (lc2I g t m gd sl ds (acc ++ [e]) C3) Q else W (lc2I g t m gd sl ds acc C2) Q) : W (lc2I g t m gd sl (d :: ds) acc C) Q := by
  unfold lc2I
  rw [if_pos hg]
  refine W.bind (h.imp fun sl1 C1 h => W.bind (h.imp fun b C2 h => ?_))
  cases b with
  | false => exact h
  | true =>
    refine W.bind (W.imp h fun e C3 h => ?_)
    show W (if acc.length < sizeLine then _ else _) _
    rw [if_pos h.1]
    exact h.2
theorem w_mLc2 {c : Bool} {own vs1 : List Nat} {mi mi1 : MI} {g g1 : MT} {t t1 : MG Bool} (h : W (mi sl C) fun k C1 => W (lc2M vs1 g t mi1 g1 t1 m k.2 (wipeS sl own) k.1 [] C1) fun zs C2 => W (newL c zs C2) QD) : W (mLc2 c own vs1 mi g t mi1 g1 t1 m sl C) QD := W.bind (h.imp fun k C1 h => W.bind (W.calm h))
/-- each thing of the first gives a row of its own, and the store stays -/
theorem w_lc2A {l : List A} {vs1 : List Nat} {mi1 : MI} {g g1 : MT} {t1 : MG Bool} {gd : Gd} {f : A → List D} {Q : List D → Store → Prop} (hg : okG gd C)
    (step : ∀ (i : Nat) (a : A) (acc : List D), l[i]? = some a → acc.length = ((l.take i).flatMap f).length → W (g (φ a) sl C) fun sl1 C1 => W (mi1 sl1 C1) fun k C2 => W (lc2I g1 t1 m k.2 (wipeS sl1 vs1) k.1 acc C2) fun z C3 => z = acc ++ f a ∧ C3 = C)
    (q : Q (l.flatMap f) C) : W (lc2M vs1 g tTrue mi1 g1 t1 m gd sl (l.map φ) [] C) Q := by
  suffices h : ∀ (es pre : List A), l = pre ++ es → W (lc2M vs1 g tTrue mi1 g1 t1 m gd sl (es.map φ) (pre.flatMap f) C) Q from h l [] rfl
  intro es
  induction es with
  | nil =>
    intro pre e
    rw [List.append_nil] at e
    subst e
    show W (lc2M vs1 g tTrue mi1 g1 t1 m gd sl [] _ C) Q
    unfold lc2M
    rw [if_pos hg]
    exact W.ok q
  | cons a es ih =>
    intro pre e
    show W (lc2M vs1 g tTrue mi1 g1 t1 m gd sl (φ a :: es.map φ) _ C) Q
    unfold lc2M
    rw [if_pos hg]
    have ha : l[pre.length]? = some a := by rw [e, List.getElem?_append_right (Nat.le_refl _)]; simp
    have ht : l.take pre.length = pre := by rw [e]; simp
    refine W.bind ((step pre.length a (pre.flatMap f) ha (by rw [ht])).imp fun sl1 C1 h => W.bind (w_tTrue ?_))
    simp only [if_true]
    refine W.bind (h.imp fun k C2 h => W.bind (h.imp fun z C3 h => ?_))
    obtain ⟨rfl, rfl⟩ := h
    have := ih (pre ++ [a]) (by rw [e]; simp)
    rwa [List.flatMap_append, List.flatMap_singleton] at this
end
end Nv

namespace Nv
open PySem PySem.Spec PyProof.Rows L2
section
variable {K : PySem.W.Frag} {mg : Str → Option Value} {E : XK}
end
section
variable {C : Store} {QD : D → Store → Prop}
end
end Nv

namespace Nv
open PySem PySem.Spec PyProof.Rows L2
section
variable {K : PySem.W.Frag} {mg : Str → Option Value} {E : XK} {B F H : Hp} {r : List Addr} {C : Store} {Q : VK} {X : Cx} {a b c e o i value : Expr} {es : List Expr} {m ma mb mo mv mi : ME} {mas : MG (List D)} {pos p1 p2 p3 : Pos}
/-! xs.index(y), of flat things -/
def idxF (y : D) : List D → Option Nat
  | [] => none
  | d :: ds => if eqF d y = true then some 0 else (idxF y ds).map (· + 1)
theorem idxF_ok {y : D} {u : V} (k : Rep K F r y u) (g : flatD y = true) : ∀ {ds : List D} {vs : List V} {j : Nat}, Reps K F r ds vs → ds.all flatD = true → idxF y ds = some j →
    ∃ z, vs[j]? = some z ∧ eqV z u = true ∧ ∀ (m : Nat) (z' : V), m < j → vs[m]? = some z' → eqV z' u = false
  | [], _, _, _, _, e => by cases e
  | d :: ds, _, j, h, f, e => by
    obtain ⟨v, w, rfl, h1, h2⟩ := h
    rw [List.all_cons, Bool.and_eq_true] at f
    unfold idxF at e
    have hv := eqF_ok h1 k f.1 g
    split at e
    · rename_i he
      cases e
      exact ⟨v, rfl, by rw [hv]; exact he, fun m z' hm => by omega⟩
    · rename_i he
      cases ei : idxF y ds with
      | none => rw [ei] at e; cases e
      | some i =>
        rw [ei] at e
        cases e
        obtain ⟨z, q1, q2, q3⟩ := idxF_ok k g h2 f.2 ei
        refine ⟨z, by simpa using q1, q2, fun m z' hm hz => ?_⟩
        cases m with
        | zero =>
          cases hz
          rw [hv]
          exact eq_false_of_ne_true he
        | succ m => exact q3 m z' (Nat.lt_of_succ_lt_succ hm) (by simpa using hz)
def gIndex (x : D) (ys : List D) (C : Store) : RE := match lstOf C x, ys with
  | some ds, [y] => if (flatD y && ds.all flatD) = true then match idxF y ds with
      | some j => .ok (.int (j : Nat), C)
      | none => .no
    else .no
  | _, _ => .no
theorem indexN : MtN K mg E (rIndex K) gIndex := by
  intro B F r H C x v ds vs Q hr hx hd o
  unfold gIndex at o
  split at o
  · rename_i xs y e
    obtain ⟨a, zs, rfl, h1, h2⟩ := lstOf_ok hr hx e
    obtain ⟨u, w, rfl, h3, h4⟩ := hd
    cases (show w = [] from h4)
    split at o
    · rename_i f
      rw [Bool.and_eq_true] at f
      split at o
      · rename_i j ej
        obtain ⟨z, q1, q2, q3⟩ := idxF_ok h3 f.1 h2 f.2 ej
        exact ⟨a, zs, u, j, z, rfl, rfl, h1, flat_ok h3 f.1, flats_ok h2 f.2, q1, q2, q3, out_ok (d := .int (j : Nat)) hr rfl o⟩
      · exact False.elim o
    · exact False.elim o
  · exact False.elim o
end
/-! their steps -/
section
variable {QD : D → Store → Prop} {QS : Fl → Sl → Store → Prop} {sl : Sl} {C : Store}
end
end Nv

namespace Nv
open PySem PySem.Spec PyProof.Rows L2
/-! dicts whose keys are tuples that nest (whole numbers, truths, None) -/
mutual
def NkV (K : PySem.W.Frag) (H : Hp) : NestedKey → V → Prop
  | .none, v => v = .non
  | .num i, v => v = .int i ∨ ∃ b : Bool, v = .bl b ∧ i = if b = true then 1 else 0
  | .text x, v => v = .str x
  | .tup ks, v => ∃ a vs, v = .ref a ∧ SqT K H a vs ∧ NksV K H ks vs
def NksV (K : PySem.W.Frag) (H : Hp) : List NestedKey → List V → Prop
  | [], vs => vs = []
  | k :: ks, vs => ∃ v w, vs = v :: w ∧ NkV K H k v ∧ NksV K H ks w
end
section
variable {X : Cx} {pins : List (Addr × Obj)} {σ : L2.St} {H : Hp} {s : Shared} {a b : Addr} {k : NestedKey} {xs : List (NestedKey × Addr × V)}
mutual
theorem nk_is (I : L2.Inv X pins σ H s) : ∀ (k : NestedKey) {v : V} {u : Value}, NkV X.K H k v → RelV v u → NestedIs s.heap k u
  | .none, _, _, h, r => by
    cases (show _ = V.non from h)
    cases (show _ = Value.none from r)
    exact .none
  | .num i, _, _, h, r => by
    rcases h with rfl | ⟨b, rfl, e⟩
    · obtain ⟨t, rfl⟩ := r
      exact .int i t
    · cases (show _ = Value.bool b from r)
      exact .bool e
  | .text x, _, _, h, r => by
    cases (show _ = V.str x from h)
    obtain ⟨t, rfl⟩ := r
    exact .text x t
  | .tup ks, _, _, h, r => by
    obtain ⟨a, vs, rfl, h1, h2⟩ := h
    cases (show _ = Value.ref a from r)
    obtain ⟨its, rv, ⟨o, e1, e2, n, e3⟩, _⟩ := I.tuple h1
    exact .tup e1 e2 e3 (nks_is I ks h2 (by simpa using rv))
theorem nks_is (I : L2.Inv X pins σ H s) : ∀ (ks : List NestedKey) {vs : List V} {us : List Value}, NksV X.K H ks vs → Vals vs us → NestedAll s.heap ks us
  | [], _, _, h, r => by
    cases (show _ = [] from h)
    cases r
    exact .nil
  | k :: ks, _, _, h, r => by
    obtain ⟨v, w, rfl, h1, h2⟩ := h
    cases r with
    | cons r1 r2 => exact .cons (nk_is I k h1 r1) (nks_is I ks h2 r2)
end
abbrev NdR : List (NestedKey × Addr × V) → List (NestedKey × Addr × Value) → Prop := Paired fun x y => x.1 = y.1 ∧ x.2.1 = y.2.1 ∧ RelV x.2.2 y.2.2
theorem NdR.all {Pr : NestedKey → Addr → Prop} : ∀ {xs : List (NestedKey × Addr × V)} {ys : List (NestedKey × Addr × Value)}, NdR xs ys → (∀ x ∈ xs, Pr x.1 x.2.1) → ∀ y ∈ ys, Pr y.1 y.2.1
  | _, _, .nil, _, _, h => nomatch h
  | _, _, .cons hxy r, hx, y, h => by
    rcases List.mem_cons.mp h with rfl | h
    · rw [← hxy.1, ← hxy.2.1]
      exact hx _ List.mem_cons_self
    · exact NdR.all r (fun x hx' => hx x (List.mem_cons_of_mem _ hx')) y h
def valN (xs : List (NestedKey × Addr × V)) (k : NestedKey) : Option V := (xs.find? fun x => decide (x.1 = k)).map (·.2.2)
theorem NdR.val (k : NestedKey) : ∀ {xs : List (NestedKey × Addr × V)} {ys : List (NestedKey × Addr × Value)}, NdR xs ys → RelO (valN xs k) ((atKey ys k).map (·.2))
  | _, _, .nil => trivial
  | x :: xs, y :: ys, .cons h r => by
    have ih := NdR.val k r
    unfold valN atKey at *
    rw [List.find?_cons, List.find?_cons]
    by_cases hk : x.1 = k
    · rw [decide_eq_true hk, decide_eq_true (h.1.symm.trans hk)]
      exact h.2.2
    · rw [decide_eq_false hk, decide_eq_false fun z => hk (h.1.trans z)]
      exact ih
def putN (xs : List (NestedKey × Addr × V)) (k : NestedKey) (b : Addr) (v : V) : List (NestedKey × Addr × V) :=
  if (valN xs k).isSome = true then xs.map (fun x => if x.1 = k then (x.1, x.2.1, v) else x) else xs ++ [(k, b, v)]
theorem NdR.mapPut {k : NestedKey} {v : V} {u : Value} (rv : RelV v u) : ∀ {xs : List (NestedKey × Addr × V)} {ys : List (NestedKey × Addr × Value)}, NdR xs ys → NdR (xs.map fun x => if x.1 = k then (x.1, x.2.1, v) else x) (ys.map (putAt k u))
  | _, _, .nil => .nil
  | x :: xs, y :: ys, .cons h r => by
    rw [List.map_cons, List.map_cons]
    refine .cons ?_ (NdR.mapPut rv r)
    unfold putAt
    by_cases hk : x.1 = k
    · rw [if_pos hk, if_pos (h.1.symm.trans hk)]
      exact ⟨h.1, h.2.1, rv⟩
    · rw [if_neg hk, if_neg fun z => hk (h.1.trans z)]
      exact h
theorem NdR.put {k : NestedKey} {v : V} {u : Value} (rv : RelV v u) {ys : List (NestedKey × Addr × Value)} (r : NdR xs ys) : NdR (putN xs k b v) (storedH ys k b u) := by
  have e : (valN xs k).isSome = (atKey ys k).isSome := by
    have := (r.val k).isSome_eq
    rwa [Option.isSome_map] at this
  unfold putN storedH
  rw [e]
  split
  · exact r.mapPut rv
  · exact Paired.snoc r ⟨rfl, rfl, rv⟩
end
section
variable {X : Cx} {pins : List (Addr × Obj)} {σ : L2.St} {H : Hp} {s : Shared} {a : Addr} {y v : V} {u r : Value} {o : Option V} {A : Around} {E : Value → Shared → Prop}
end
section
variable {X : Cx} {o i e f value : Expr} {pos pos' tpos cpos apos : Pos} {td ty tv tx : TE}
end
end Nv

namespace Nv
open PySem PySem.Spec PyProof.Rows L2
section
variable {K : PySem.W.Frag} {mg : Str → Option Value} {E : XK} {B F H : Hp} {r : List Addr} {C : Store} {Q : VK} {X : Cx} {a b e o i f value : Expr} {es : List Expr} {m ma mb mo mv mi mz : ME} {mas : MG (List D)} {pos p1 p2 p3 : Pos}
mutual
theorem rep_nk (hF : Same F H) : ∀ (d : D) {k : NestedKey} {v : V}, keyN d = some k → Rep K F r d v → NkV K H k v
  | .non, _, _, e, h => by cases e; exact h
  | .bl b, _, _, e, h => by cases e; exact .inr ⟨b, h, rfl⟩
  | .int i, _, _, e, h => by cases e; exact .inl h
  | .tup ds, k, _, e, h => by
    have e : (keysN ds).map NestedKey.tup = some k := e
    cases g : keysN ds with
    | none => rw [g] at e; cases e
    | some ks =>
      rw [g] at e
      cases e
      obtain ⟨a, vs, rfl, h1, h2⟩ := h
      exact ⟨a, vs, rfl, Same.tup hF h1, reps_nk hF ds g h2⟩
  | .str _, _, _, e, _ => nomatch e
  | .lst _, _, _, e, _ => nomatch e
  | .cell _, _, _, e, _ => nomatch e
  | .edct, _, _, e, _ => nomatch e
  | .fn _, _, _, e, _ => nomatch e
  | .exc _ _ _, _, _, e, _ => nomatch e
theorem reps_nk (hF : Same F H) : ∀ (ds : List D) {ks : List NestedKey} {vs : List V}, keysN ds = some ks → Reps K F r ds vs → NksV K H ks vs
  | [], _, _, e, h => by cases e; exact h
  | d :: ds, ks, _, e, h => by
    have e : (keyN d).bind (fun k => (keysN ds).map (k :: ·)) = some ks := e
    cases g : keyN d with
    | none => rw [g] at e; cases e
    | some k =>
      rw [g, Option.bind_some] at e
      cases g2 : keysN ds with
      | none => rw [g2] at e; cases e
      | some ks' =>
        rw [g2] at e
        cases e
        obtain ⟨v, w, rfl, h1, h2⟩ := h
        exact ⟨v, w, rfl, rep_nk hF d g h1, reps_nk hF ds g2 h2⟩
end
inductive NPs (X : Cx) (E : XK) : List (Option Expr) → List Expr → List (ME × ME) → Prop
  | nil : NPs X E [] [] []
  | cons {k v : Expr} {ks : List (Option Expr)} {vs : List Expr} {mk mv : ME} {rs : List (ME × ME)} (hk : NE X E k mk) (hv : NE X E v mv) (hr : NPs X E ks vs rs) : NPs X E (some k :: ks) (v :: vs) ((mk, mv) :: rs)
theorem NPs.sh {ks : List (Option Expr)} {vs : List Expr} {rs : List (ME × ME)} (h : NPs X E ks vs rs) : ks.all (·.isSome) = true ∧ ks.length = vs.length := by
  induction h with
  | nil => exact ⟨rfl, rfl⟩
  | cons hk hv hr ih => exact ⟨by simpa using ih.1, by simp [ih.2]⟩
end
/-! their steps -/
section
variable {QD : D → Store → Prop} {QS : Fl → Sl → Store → Prop} {sl : Sl} {C : Store} {m mo mi mv mz : ME}
end
end Nv

namespace Nv
open PySem PySem.Spec PyProof.Rows L2
/-! set(a list of whole numbers), and such a set in order -/
section
variable {P : Program} {w : World} {Ar : Around} {Ex : Value → Shared → Prop} {st : Shared}
set_option maxHeartbeats 8000000 in
end
section
variable {X : Cx}
end
section
variable {K : PySem.W.Frag} {mg : Str → Option Value} {E : XK} {X : Cx} {a tg it elt : Expr} {ma : ME} {pos p1 p2 q1 : Pos}
open Classical in
end
section
variable {QD : D → Store → Prop} {C : Store}
end
end Nv

namespace Nv
open PySem PySem.Spec PyProof.Rows L2
/-! own errors: made, raised -/
section
variable {X : Cx} {e : Expr} {es : List Expr} {ta : TA} {p1 p2 pos : Pos}
/-- an own class whose __init__ is the one of ValueError -/
structure BaseX (K : PySem.W.Frag) (R : Addr) : Prop where
  rd : PySem.W.readsIn K R (.type "type") = true
  ga : PySem.W.specialIn K (.ref R) "__getattribute__" = some (some (.builtin "type.__getattribute__"))
  ini : PySem.W.findCls K (.ref R) (.type "type") "__init__" = some (.val (.builtin "ValueError.__init__"))
theorem pe_baseInit {pl : Sem Bool} {rx : Str} {R : Addr} (T0 : BaseX X.K R) (hm : X.mg rx = some (.ref R)) (hg : Gl X rx) (hdb : (rx == ("__debug__" : Str)) = false) (ha : PA X (e :: es) ta)
    (hc : eval (.Call (.Attribute (.Name rx p1) "__init__" p2) (e :: es) [] pos) X.env = (do
      let ov ← eval (.Name rx p1) X.env
      standAt p2.atName
      let (f, first) ← holding [ov] (getMethod ov "__init__" pl)
      callWith pos f first (backTo pos (starEach (e :: es) X.env)) (backToKw pos (keywordEach [] X.env))) := by rfl)
    (he : starEach (e :: es) X.env = (false, eval e X.env) :: starEach es X.env := by rfl) (hpl : (backTo pos (starEach es X.env)).any (·.1) = false := by rfl) :
    PE X (.Call (.Attribute (.Name rx p1) "__init__" p2) (e :: es) [] pos) (tVeI X.K ta) := by
  refine ⟨fun pins s σ H Q I h => ?_⟩
  refine PySem.W.methodCall_KW (ld_glob I hg hm ?_ hdb) hc
  refine PySem.W.method_cls I.kIn T0.ga (PySem.W.cls_value I.kIn T0.rd T0.ini (by decide +kernel) ?_)
  show wpAny _ _ (callWith pos (Value.builtin "ValueError.__init__") [] (backTo pos (starEach (e :: es) X.env)) []) _ _ _
  refine PyProof.Rows.callWith_method1 (thn (ha.run pos pins _ σ H _ (I.tok _) h) fun us s1 z => ?_) he hpl
  obtain ⟨vs, H1, I1, r1, a, C, ws, ev, hl, T, ea, q⟩ := z
  subst ev
  cases r1 with
  | @cons _ u0 _ ur ra rw' =>
    obtain rfl : u0 = Value.ref a := ra
    have hlen : ur.length ≤ sizeLine := by
      rw [← Paired.length rw', sizeLine_eq]
      omega
    exact oinit_ok T I1 ea hlen fun s' J => ⟨.non, H1, J, rfl, q⟩
/-- what such an __init__ promises: the one field is set -/
def spI (K : PySem.W.Frag) (C : Addr) (f : Str) : Sp := fun vs H Q _ => ∃ (a : Addr) (v : V), vs = [.ref a, v] ∧ OexC K C ∧ PySem.W.findIn K (.ref C) f = some none ∧ H a = some (exo a C none) ∧
  ∀ dx, H dx = none → dx ≠ a → Q .non (upd (upd H dx (exd dx [(f, v)])) a (exo a C (some dx)))
theorem spI_len {K : PySem.W.Frag} {C : Addr} {f : Str} : ∀ vs H Q E, spI K C f vs H Q E → vs.length = 2 := by
  intro vs H Q E h
  obtain ⟨a, v, rfl, _⟩ := h
  rfl
theorem spI_read {K : PySem.W.Frag} {C : Addr} {f m g1 g2 : Str} {vs : List V} {H : Hp} {Q : VK} {E : XK} {De : Ends} (h : spI K C f vs H Q E) (hq : ∀ s H', De.nx s H' → De.nx s H') (hn : ∀ s H', Q .non H' → De.nx s H') :
    tDrop (tVeI K (tCons (tVar 0) (tCons (tC (.str m)) tNil))) { De with nx := fun s H' => tOst K f (tVar 0) (tVar 1) De s H' } (start [g1, g2] vs) H := by
  obtain ⟨a, v, rfl, T, nf, ea, q⟩ := h
  refine ⟨.ref a, rfl, a, C, [.str m], rfl, by simp, T, ea, ?_⟩
  refine ⟨v, rfl, .ref a, rfl, a, C, rfl, T, nf, .inl ⟨ea, fun dx n ne => hn _ _ (q dx n ne)⟩⟩
end
/-! mirrors -/
def sRaise1 (x f : Str) (m : ME) : MS := fun sl C => (m sl C).bind fun p => .ex ⟨x, some (f, p.1)⟩ p.2
def sRaise0 (x : Str) : MS := fun _ C => .ex ⟨x, none⟩ C
/-- what the written part says of such a class, and of its __init__ -/
structure ErrI (P : Program) (w : World) (K : PySem.W.Frag) (mg : Str → Option Value) (base : Heap) (x f : Str) (C : Addr) : Prop where
  at_ : mg x = some (.ref C)
  ox : OexC K C
  nf : PySem.W.findIn K (.ref C) f = some none
  ini : ∃ (fI : Addr) (fd : FuncData), PySem.W.findIn K (.ref C) "__init__" = some (some (.ref fI)) ∧ PySem.W.typeIn K (.ref fI) = some (.type "function") ∧ FnOk P w K mg base CX0 1 fI fd ["self", f] (spI K C f) ∧ Binds K fd ["self", f] []
/-- what must be known of a class whose errors are looked into -/
structure ErrL (K : PySem.W.Frag) (mg : Str → Option Value) (x f : Str) (C : Addr) : Prop where
  at_ : mg x = some (.ref C)
  xf : xfB K C = true
  nf : PySem.W.findIn K (.ref C) f = some none
/-- all of it; rx: the class that the except clause names -/
def ErrX (P : Program) (w : World) (K : PySem.W.Frag) (mg : Str → Option Value) (base : Heap) (x f rx : Str) : Prop :=
  ∃ C R : Addr, ErrI P w K mg base x f C ∧ ErrL K mg x f C ∧ ExcC K C ∧ mg rx = some (.ref R) ∧ PySem.W.exmOne K (.ref C) (.ref R) = some true ∧ PySem.W.kitOne K (.ref C) (.type "ValueError") = some true
theorem errX_mk {P : Program} {w : World} {K : PySem.W.Frag} {mg : Str → Option Value} {base : Heap} {x f rx : Str} {C S fI : Addr} {fd : FuncData} (gC : mg x = some (.ref C)) (ox : OexC K C) (nf : PySem.W.findIn K (.ref C) f = some none) (iC : PySem.W.findIn K (.ref C) "__init__" = some (some (.ref fI)))
    (tI : PySem.W.typeIn K (.ref fI) = some (.type "function")) (F : FnOk P w K mg base CX0 1 fI fd ["self", f] (spI K C f)) (hb : Binds K fd ["self", f] []) (ga : PySem.W.findIn K (.ref C) "__getattribute__" = some (some (.builtin "BaseException.__getattribute__"))) (gg : PySem.W.findIn K (.ref C) "__getattr__" = some none)
    (eC : PySem.W.subIn K (.ref C) (.type "BaseException") = some true) (hC : PySem.W.hasDictIn K C = true) (xa : PySem.W.findIn K (.ref C) "__class__" = some (some (.builtin "object.__class__"))) (xn : PySem.W.specialIn K (.builtin "object.__class__") "__get__" = some (some (.builtin "getset_descriptor.__get__")))
    (xt : PySem.W.takesIn K (.builtin "object.__class__") = some true) (xm : PySem.W.mroIn K C (.type "object") = some true) (gS : mg rx = some (.ref S)) (s1 : PySem.W.subIn K (.ref S) (.type "BaseException") = some true) (s2 : PySem.W.hasDictIn K S = true) (s3 : PySem.W.typeIn K (.ref S) = some (.type "type"))
    (s4 : PySem.W.subIn K (.ref C) (.ref S) = some true) (tv : PySem.W.subIn K (.ref C) (.type "ValueError") = some true) : ErrX P w K mg base x f rx := by
  refine ⟨C, S, ⟨gC, ox, nf, fI, fd, iC, tI, F, hb⟩, ⟨gC, ?_, nf⟩, ⟨ga, gg, eC, hC, xa, xn, xt, xm⟩, gS, PySem.W.exm_ref s1 s2 s3 s4, ?_⟩
  · unfold xfB
    rw [decide_eq_true ga, decide_eq_true gg, decide_eq_true eC, hC]
    rfl
  · show (if ((Value.ref C : Value) == .type "ValueError") = true then some true else PySem.W.kitCls K (.ref C) (.type "ValueError")) = some true
    rw [if_neg (fun z => by have z := beq_iff_eq.mp z; cases z)]
    show (if PySem.W.kitMeta "ValueError" = true then PySem.W.subIn K (.ref C) (.type "ValueError") else none) = some true
    rw [if_pos (by decide +kernel)]
    exact tv
section
variable {X : Cx} {E : XK} {e : Expr} {m : ME} {p pos rp : Pos} {x f rx : Str} {C : Addr}
theorem ns_raiseX (h : ErrX X.prog X.w X.K X.mg X.base x f rx) (hr : Room 2 X.A) (hc : X.calm = true) (tk : L2.Takes X (fun cls d _ H => E cls d H)) (he : NE X E e m) (hg : Gl X x := by rfl) (hdb : (x == ("__debug__" : Str)) = false := by decide)
    (hst : starEach [e] X.env = (false, eval e X.env) :: starEach [] X.env := by rfl) (hpl : (backTo pos (starEach [] X.env)).any (·.1) = false := by rfl) :
    NS X E (.Raise (some (.Call (.Name x p) [e] [] pos)) none rp) (sRaise1 x f m) := by
  obtain ⟨C, R, T, _⟩ := h
  obtain ⟨fI, fd, iC, tI, F1, hb⟩ := T.ini
  refine ⟨ps_imp (L2.ps_raise hc tk (pmk_oex (ds := []) (dvs := []) T.ox iC tI F1 hr hb .nil pass0 hg T.at_ (pa_cons he.pe pa_nil (hs := hst)) hdb hst hpl)) fun De s H q => ?_⟩
  obtain ⟨B, F, r, sl, C0, hr, hs, o⟩ := q
  refine ⟨B, F, r, sl, C0, hr, hs, OutS.bind (P := Rep X.K) o fun d C1 F1 r1 H1 v e1 e2 hr1 hx o1 => ?_⟩
  refine ⟨by simp, fun a ha => ⟨a, v, rfl, T.ox, T.nf, upd_same, fun dx hdx hne => ⟨rfl, dx, [(f, v)], upd_same, ?_, ?_, ?_⟩⟩⟩
  · rw [upd_ne hne]
    exact upd_same
  · rw [upd_ne hne] at hdx
    exact hdx
  · rw [upd_ne hne] at hdx
    have eq : upd (del (upd (upd (upd H1 a (exo a C none)) dx (exd dx [(f, v)])) a (exo a C (some dx))) a) dx (.xd [(f, v)]) = upd H1 dx (.xd [(f, v)]) := by
      funext b
      by_cases hb : b = dx
      · subst hb
        rw [upd_same, upd_same]
      · rw [upd_ne hb, upd_ne hb]
        by_cases hba : b = a
        · subst hba
          rw [del_same, ha]
        · rw [del_ne hba, upd_ne hba, upd_ne hb, upd_ne hba]
    rw [eq]
    have sF : Same F1 (upd F1 dx (.xd [(f, v)])) := same_new (hr1.freeF hdx)
    exact o1 _ r1 _ C sF (.refl _) (hr1.freeze hdx) T.at_ dx v upd_same (hx.mono sF (.refl _))
/-- an own class without __init__ -/
structure Err0 (K : PySem.W.Frag) (mg : Str → Option Value) (x : Str) (C : Addr) : Prop where
  at_ : mg x = some (.ref C)
  ex : PySem.W.excIn K C [.type "ValueError", .type "Exception", .type "BaseException", .type "object"] "ValueError.__new__" = true
  kp : PySem.W.keepIn K (.ref C) = true
  sb : PySem.W.subIn K (.ref C) (.type "BaseException") = some true
  ty : PySem.W.typeIn K (.ref C) = some (.type "type")
theorem ns_raise0 {t : Str} {j : Nat} {p2 : Pos} (T : Err0 X.K X.mg x C) (hc : X.calm = true) (tk : L2.Takes X (fun cls d _ H => E cls d H)) (hg : Gl X x := by rfl) (hdb : (x == ("__debug__" : Str)) = false := by decide) :
    NS X E (.Raise (some (.Call (.Name x p) [.Constant (.str t) j p2] [] pos)) none rp) (sRaise0 x) := by
  refine ⟨ps_imp (L2.ps_raise hc tk (L2.pmk_own PySem.F.excBase_ValueError T.ex T.at_ T.kp (raises_own T.sb T.ty) hg hdb)) fun De s H q => ?_⟩
  obtain ⟨B, F, r, sl, C0, hr, hs, o⟩ := q
  have o : XOk X.K X.mg E B F r ⟨x, none⟩ C0 := o
  exact o F r H C (.refl _) (.refl _) hr T.at_
end
/-! what may raise inside a try: the wish knows the slots -/
def XT : XK := fun _ _ _ => True
theorem xok_T {K : PySem.W.Frag} {mg : Str → Option Value} {B F : Hp} {r : List Addr} {x : Exn} {C : Store} : XOk K mg XT B F r x C := by
  intro F' r' H' a _ _ _ _
  obtain ⟨c, fl⟩ := x
  cases fl with
  | none => exact True.intro
  | some p => exact fun _ _ _ _ => True.intro
theorem Out.bindT {K : PySem.W.Frag} {mg : Str → Option Value} {E : XK} {B F : Hp} {r : List Addr} {S T S2 T2 : Type} {P : PR S T} {P2 : PR S2 T2} {o : R (S × Store)} {k : S × Store → R (S2 × Store)} {Q : T2 → Hp → Prop} {Q' : T → Hp → Prop} (h : Out P2 K mg E B F r (o.bind k) Q)
    (hk : ∀ (a : S) (C1 : Store) (F1 : Hp) (r1 : List Addr) (H1 : Hp) (b : T), Same F F1 → Ex r r1 → Rel K B F1 r1 H1 C1 → P F1 r1 a b → Out P2 K mg E B F1 r1 (k (a, C1)) Q → Q' b H1) : Out P K mg XT B F r o Q' := by
  cases o with
  | ok p =>
    obtain ⟨a, C1⟩ := p
    exact fun F' r' H' b h1 h2 h3 h4 => hk a C1 F' r' H' b h1 h2 h3 h4 (Out.mono h h1 h2)
  | ex x C => exact xok_T
  | no => exact h
theorem OutS.bindT {K : PySem.W.Frag} {mg : Str → Option Value} {E : XK} {B F : Hp} {r : List Addr} {De : Ends} {S T : Type} {P : PR S T} {o : R (S × Store)} {k : S × Store → RS} {Q : T → Hp → Prop} (h : OutS K mg E B F r (o.bind k) De)
    (hk : ∀ (a : S) (C1 : Store) (F1 : Hp) (r1 : List Addr) (H1 : Hp) (b : T), Same F F1 → Ex r r1 → Rel K B F1 r1 H1 C1 → P F1 r1 a b → OutS K mg E B F1 r1 (k (a, C1)) De → Q b H1) : Out P K mg XT B F r o Q := by
  cases o with
  | ok p =>
    obtain ⟨a, C1⟩ := p
    exact fun F' r' H' b h1 h2 h3 h4 => hk a C1 F' r' H' b h1 h2 h3 h4 (OutS.mono h h1 h2)
  | ex x C => exact xok_T
  | no => exact h
abbrev wAt0 (W : WX) (s : L2.St) : XK := fun cls d H => W cls d s H
def LX (K : PySem.W.Frag) (mg : Str → Option Value) (W : WX) (m : ME) : TE := fun s H Q => ∃ B F r sl C, Rel K B F r H C ∧ Sls K F r sl s ∧ Out (Rep K) K mg (wAt0 W s) B F r (m sl C) Q
def LSX (K : PySem.W.Frag) (mg : Str → Option Value) (W : WX) (m : MS) : TS := fun De s H => ∃ B F r sl C, Rel K B F r H C ∧ Sls K F r sl s ∧ OutS K mg (wAt0 W s) B F r (m sl C) De
structure NEx (X : Cx) (W : WX) (e : Expr) (m : ME) : Prop where
  pe : PE X e (LX X.K X.mg W m)
structure NSx (X : Cx) (W : WX) (st : Stmt) (m : MS) : Prop where
  ps : PS X st (LSX X.K X.mg W m)
structure NSsx (X : Cx) (W : WX) (st : List Stmt) (m : MS) : Prop where
  ps : PSs X st (LSX X.K X.mg W m)
section
variable {X : Cx} {W : WX} {k : Nat} {f : Addr} {fd : FuncData} {ps : List Str} {sp : Sp} {x : Str} {p p1 pos : Pos} {e c : Expr} {es : List Expr} {t : TA} {m : ME} {mas : MG (List D)} {st : Stmt} {xs ys : List Stmt} {u u1 u2 : MS} {mt : MG Bool}
theorem run_fnGS {pins : List (Addr × Obj)} {σ : L2.St} {H : Hp} {s : Shared} {Q : VK} {us : List Value} {vs : List V} (F : FnG X.prog X.w X.K X.mg X.base k f fd ps sp) (hr : Room k X.A) (hgd : X.A.guards = some []) (hb : L2.Binds X.K fd ps [])
    (hx : PassesAt (L2.CX X.prog X.w) X σ (wAt0 W σ)) (I : L2.Inv X pins σ H s) (r : Vals vs us) (h : sp vs H Q (wAt0 W σ)) : wpAny (model X.prog X.w) X.A (call (.ref f) us) (EP X pins σ Q) X.xe s := by
  have hl : (us ++ []).length = ps.length := by
    rw [List.append_nil, ← r.length]
    exact F.len _ _ _ _ h
  have hb1 := hb s us I.kIn hl
  rw [List.append_nil] at hb1
  refine wpAny_call (codeAny_mono (F.run X.A X.stack s H ⟨us, []⟩ us vs Q (wAt0 W σ) hr hgd I.env0 hb1 r h) fun r s' hq => ?_)
  cases r with
  | error z => exact hx pins H s z s' I hq
  | ok fl =>
    cases fl with
    | ret u => exact I.after hq
    | next => exact False.elim hq
    | brk => exact False.elim hq
    | cont => exact False.elim hq
theorem nex_cal {n : Nat} {mf : MF} (h : Cal X.prog X.w X.K X.mg X.base x k n mf) (hr : Room k X.A) (hgd : X.A.guards = some []) (tk : L2.Takes X W) (ha : NA X XT (e :: es) mas) (hg : Gl X x := by rfl) (hdb : (x == ("__debug__" : Str)) = false := by decide)
    (he : starEach (e :: es) X.env = (false, eval e X.env) :: starEach es X.env := by rfl) (hpl : (backTo pos (starEach es X.env)).any (·.1) = false := by rfl) : NEx X W (.Call (.Name x p1) (e :: es) [] pos) (mF n mf mas) := by
  obtain ⟨f, fd, ps, F, hm, hk, hb⟩ := h
  refine ⟨⟨fun pins s σ H Q I q => ?_⟩⟩
  refine wpAny_Call_Name_kw (ld_glob I hg hm ?_ hdb)
  obtain ⟨B, F0, r, sl, C, hr0, hs, o⟩ := q
  refine PySem.W.callWith_K (h₀ := X.base) I.ok.mod.kin hk (thn (ha.pa.run pos pins s σ H (fun vs H1 => spN X.K X.mg n mf vs H1 Q (wAt0 W σ)) I ⟨B, F0, r, sl, C, hr0, hs, Out.bindT (P := Reps X.K) o fun xs C1 F1 r1 H1 vs e1 e2 hr1 hx o1 => ?_⟩) fun us s1 z => ?_) he hpl
  · simp only at o1
    split at o1
    · rename_i hl
      exact ⟨B, F1, r1, C1, xs, hr1, hx, hl, o1⟩
    · exact False.elim o1
  · obtain ⟨vs, H1, I1, r1, q1⟩ := z
    exact ⟨I1.kIn, run_fnGS F hr hgd hb (passAt tk σ) I1 r1 q1⟩
theorem nsx_expr (he : NEx X W e m) (hs : swapsWith e none pos.line X.env = pure false := by rfl) : NSx X W (.Expr e pos) (sDrop m) := ⟨ps_imp (ps_expr he.pe hs) fun De s H q => by
    obtain ⟨B, F, r, sl, C, hr, hs, o⟩ := q
    refine ⟨B, F, r, sl, C, hr, hs, OutS.bind (P := Rep X.K) o fun x C1 F1 r1 H1 v e1 e2 hr1 hx o1 => ?_⟩
    exact OutS.next o1 hr1 (hs.mono e1 e2)⟩
theorem nsx_if (hc : NT X XT c mt) (ha : NSsx X W xs u1) (hb : NSsx X W ys u2) : NSx X W (.If c xs ys pos) (sIf mt u1 u2) := ⟨ps_imp (ps_if hc.pt ha.ps hb.ps) fun De s H q => by
    obtain ⟨B, F, r, sl, C, hr, hs, o⟩ := q
    refine ⟨B, F, r, sl, C, hr, hs, OutS.bindT (P := PB) o fun x C1 F1 r1 H1 v e1 e2 hr1 hx o1 => ?_⟩
    subst hx
    cases x with
    | true =>
      rw [if_pos rfl] at o1 ⊢
      exact ⟨B, F1, r1, sl, C1, hr1, hs.mono e1 e2, o1⟩
    | false =>
      rw [if_neg Bool.false_ne_true] at o1 ⊢
      exact ⟨B, F1, r1, sl, C1, hr1, hs.mono e1 e2, o1⟩⟩
theorem nssx_one (h : NSx X W st u) : NSsx X W [st] u := ⟨pss_one h.ps⟩
end
/-! the try -/
def sTry (mb : MS) (hm : Exn → MS) : MS := fun sl C => match mb sl C with
  | .ex x C' => hm x sl C'
  | o => o
/-- what the suite may take for granted of the error that it holds -/
def HeldOk (K : PySem.W.Frag) (mg : Str → Option Value) (F : Hp) (r : List Addr) (H : Hp) (x : Exn) (a : Addr) (d : Option Addr) : Prop :=
  mg x.cls = some (.ref a) ∧ match x.fld with
    | none => d = none
    | some (f, dd) => ∃ (dx : Addr) (v : V), d = some dx ∧ F dx = some (.xd [(f, v)]) ∧ Rep K F r dd v
section
variable {X : Cx} {E : XK} {x n : Str} {c : Value} {i : Nat} {body suite : List Stmt} {b₀ : Stmt} {np pos pos' : Pos} {ts : Addr → Value → Option Addr → TS} {mb : MS} {hm : Exn → MS}
end
/-! what an except suite does with the error that it holds -/
section
variable {X : Cx} {E : XK} {x f y n rx : Str} {C : Addr} {i j : Nat} {body : List Stmt} {np p1 p2 p3 p4 pos pos' : Pos} {mb : MS}
end
/-! y = (w, n.f) if isinstance(n, x) and isinstance(n, ValueError) else o -/
section
variable {X : Cx} {E : XK} {x f y n rx w o : Str} {i j : Nat} {body : List Stmt} {np p1 p2 p3 p4 p5 p6 p7 p8 p9 p10 p11 p12 p13 p14 p15 q1 q2 pos pos' : Pos} {k1 k2 k3 : Nat} {mb : MS}
end
end Nv

namespace Nv
open PySem PySem.Spec PyProof.Rows L2
/-! an error that is kept beyond its suite: except R as n: y = n -/
section
variable {X : Cx} {pins : List (Addr × Obj)} {σ : L2.St} {H : Hp} {s : Shared}
/-- an object that the def did not find at its start is told of from now on -/
theorem inv_track {a : Addr} {o : HO} (I : Inv X pins σ H s) (h0 : X.s_0.heap.get? a = none) (hn : H a = none) (nL : a ≠ X.env.locals) (nC : ∀ x c, X.env.cells.lookup x = some c → c ≠ a) (np : ∀ p ∈ X.pn ++ pins, p.1 ≠ a) (new : ObjOk X.prog X.w (upd H a o) s.heap a o) :
    Inv X pins σ (upd H a o) s where
  ok := I.ok
  os := I.os
  bare := I.bare
  base := {
    keep := I.base.keep
    slot := I.base.slot
    free := fun b u e n hq => by
      have hb : b ≠ a := fun z => by
        rw [z, h0] at e
        cases e
      rw [upd_ne hb]
      exact I.base.free b u e n hq
    there := I.base.there
    tups := fun b xs e => by
      have k := I.base.tups b xs e
      rw [upd_ne (ne_of_none k hn)]
      exact k
    frzs := fun b u v e => by
      have k := I.base.frzs b u v e
      rw [upd_ne (ne_of_none k hn)]
      exact k
    tbls := fun b ps e => by
      obtain ⟨more, k⟩ := I.base.tbls b ps e
      exact ⟨more, by rw [upd_ne (ne_of_none k hn)]; exact k⟩ }
  loc := I.loc
  cell := I.cell
  free := by
    rw [upd_ne (Ne.symm nL)]
    exact I.free
  freeC := fun x c e => by
    rw [upd_ne (nC x c e)]
    exact I.freeC x c e
  pin := fun p hp => by
    obtain ⟨k1, k2, k3, k4, k5⟩ := I.pin p hp
    exact ⟨k1, by rw [upd_ne (np p hp)]; exact k2, k3, k4, k5⟩
  hok := fun b u e => by
    by_cases hb : b = a
    · subst hb
      rw [upd_same] at e
      cases e
      exact new
    · rw [upd_ne hb] at e
      exact (I.hok b u e).stay (fun _ _ _ k => k) (fun c k => by rw [upd_ne (ne_of_none k hn)]; exact k) fun c xs k => by rw [upd_ne (ne_of_none k hn)]; exact k
  len := I.len
theorem exc_told {P : Program} {w : World} {H : Hp} {h : Heap} {a C : Addr} {d : Option Addr} (e : excφ a C d h) : ObjOk P w H h a (.ext (excφ a C d)) := by
  obtain ⟨oe, q1, q2, q3, vs, q4⟩ := e
  exact ⟨⟨oe, q1, q2, q3, vs, q4⟩, ⟨oe, q1⟩, fun h1 h2 z k => by
    obtain ⟨oe, r1, r2, r3, vs, r4⟩ := z
    exact ⟨oe, k _ r1, r2, r3, vs, r4⟩⟩
end
section
variable {X : Cx} {x n y : Str} {c : Value} {i j : Nat} {body : List Stmt} {np p1 p2 p3 pos pos' : Pos} {tb : WX → TS}
end
/-- the held error as a value -/
def heldD (e : Exn) : D := match e.fld with
  | some (f, d) => .exc e.cls f [d]
  | none => .exc e.cls "" []
/-- the classes of errors that the clause R may hold -/
def KeepF (K : PySem.W.Frag) (mg : Str → Option Value) (cs : List Str) (R : Addr) : Prop := ∀ c ∈ cs, ∀ C : Addr, mg c = some (.ref C) → PySem.W.nsIn K mainGlobals c = some (some (.ref C)) ∧ PySem.W.exmOne K (.ref C) (.ref R) = some true
theorem held_rep {K : PySem.W.Frag} {mg : Str → Option Value} {B F H : Hp} {r : List Addr} {C : Store} {e : Exn} {a C0 : Addr} {d : Option Addr} (hr : Rel K B F r H C) (hh : HeldOk K mg F r H e C0 d) (hn : PySem.W.nsIn K mainGlobals e.cls = some (some (.ref C0))) (ha : H a = none) :
    Rep K (upd F a (.ext (excφ a C0 d))) r (heldD e) (.ref a) := by
  have hF := hr.freeF ha
  have sF : Same F (upd F a (.ext (excφ a C0 d))) := same_new hF
  obtain ⟨_, hfl⟩ := hh
  unfold heldD
  cases hf : e.fld with
  | none =>
    rw [hf] at hfl
    exact ⟨a, C0, [], rfl, hn, ⟨d, upd_same, .inl ⟨rfl, hfl⟩⟩, rfl⟩
  | some q =>
    obtain ⟨f, dd⟩ := q
    rw [hf] at hfl
    obtain ⟨dx, v, rfl, e1, e2⟩ := hfl
    have hne : dx ≠ a := fun z => by
      rw [z, hF] at e1
      cases e1
    exact ⟨a, C0, [v], rfl, hn, ⟨some dx, upd_same, .inr ⟨v, dx, rfl, rfl, by rw [upd_ne hne]; exact e1⟩⟩, v, [], rfl, e2.mono sF (.refl _), rfl⟩
section
variable {X : Cx} {E : XK} {x n y : Str} {R : Addr} {body : List Stmt} {np p1 p2 p3 pos pos' : Pos} {mb : MS}
end
end Nv

namespace Nv
open PySem PySem.Spec PyProof.Rows L2
/-! isinstance of a kept error -/
def rIsH (K : PySem.W.Frag) : List V → Hp → VK → Prop := fun xs H Q => ∃ (a C : Addr) (d : Option Addr) (c : V) (cv : Value) (b : Bool), xs = [.ref a, c] ∧ H a = some (.ext (excφ a C d)) ∧ ExcC K C ∧ (d = none ∨ ∃ (dd : Addr) (fs : List (Str × V)), d = some dd ∧ H dd = some (.xd fs)) ∧
  (∀ u, RelV c u → u = cv) ∧ PySem.W.kitOne K (.ref C) cv = some b ∧ Q (.bl b) H
section
variable {X : Cx}
theorem call_isH : CallR X (.builtin "isinstance") (rIsH X.K) := by
  intro pins s σ H xs us Q I r h
  obtain ⟨a, C, d, c, cv, b, rfl, ha, T, hd, hcv, e, q⟩ := h
  cases r with
  | cons rx rr =>
    cases rr with
    | cons rt rr =>
      cases rr
      cases rx
      have ec := hcv _ rt
      subst ec
      have hx : ObjOk X.prog X.w H s.heap a (.ext (excφ a C d)) := I.hok a _ ha
      obtain ⟨⟨oe, q1, q2, q3, vs, q4⟩, _, _⟩ := hx
      have nc : PySem.W.notCls oe = true := by
        unfold PySem.W.notCls
        rw [q4] <;> rfl
      obtain ⟨cdD, hcD, _⟩ := PySem.W.any_some T.hd
      have hcl : (PySem.W.clsIn X.K C).isSome = true := by rw [hcD]; rfl
      rcases hd with rfl | ⟨dd, fs, rfl, hdx⟩
      · have J : PySem.W.InstAt s.heap a oe C none := ⟨q1, q2, nc, by rw [q3]; trivial⟩
        exact PySem.W.kia_one (PySem.W.kitx_exc hcl T.hg T.hk T.hs T.ha T.hn T.ht T.hm) I.kIn J e (fun z => nomatch z) fun tk => ⟨.bl b, H, I.kept (t' := tk) fun _ _ z => z, rfl, q⟩
      · have hy : ObjOk X.prog X.w H s.heap dd (.xd fs) := I.hok dd _ hdx
        obtain ⟨mA, hns, hr⟩ := hy
        obtain ⟨od, ho, hl⟩ := lookIn_ns hns
        have J : PySem.W.InstAt s.heap a oe C (some od) := ⟨q1, q2, nc, by rw [q3]; exact ho⟩
        exact PySem.W.kia_one (PySem.W.kitx_exc hcl T.hg T.hk T.hs T.ha T.hn T.ht T.hm) I.kIn J e (fun z => nomatch z) fun tk => ⟨.bl b, H, I.kept (t' := tk) fun _ _ z => z, rfl, q⟩
end
/-- tb: a class of errors and the names of what it is an instance of -/
def gIsOwn (tb : List (Str × List Str)) (t : Str) (x : D) (C : Store) : RE := match x with
  | .exc c _ _ => match tb.lookup c with
    | some as => .ok (.bl (as.contains t), C)
    | none => .no
  | _ => .no
def OwnF (K : PySem.W.Frag) (tb : List (Str × List Str)) (t : Str) (cv : Value) : Prop := ∀ c as, tb.lookup c = some as → ∀ C : Addr, PySem.W.nsIn K mainGlobals c = some (some (.ref C)) → ExcC K C ∧ PySem.W.kitOne K (.ref C) cv = some (as.contains t)
section
variable {X : Cx} {E : XK} {e : Expr} {m : ME} {t : Str} {tb : List (Str × List Str)} {c : V} {cv : Value} {p1 p2 pos : Pos}
theorem ne_isOwn (T : OwnF X.K tb t cv) (hcv : ∀ u, RelV c u → u = cv) (his : X.mg "isinstance" = none) (ht : PE X (.Name t p2) (tC c)) (he : NE X E e m) (hgi : Gl X "isinstance" := by rfl)
    (h1 : starEach [e, .Name t p2] X.env = (false, eval e X.env) :: starEach [.Name t p2] X.env := by rfl) (h2 : starEach [.Name t p2] X.env = (false, eval (.Name t p2) X.env) :: starEach [] X.env := by rfl) (h3 : (backTo pos (starEach [.Name t p2] X.env)).any (·.1) = false := by rfl) :
    NE X E (.Call (.Name "isinstance" p1) [e, .Name t p2] [] pos) (m1 (gIsOwn tb t) m) :=
  ⟨pe_imp (pe_callB call_isH hgi his PyProof.Rows.Boot.«isinstance» (pa_cons he.pe (pa_cons ht pa_nil (hs := h2)) (hs := h1)) (by decide) (by decide) h1 h3) fun s H Q q => by
    obtain ⟨B, F, r, sl, C, hr, hs, o⟩ := q
    refine ⟨B, F, r, sl, C, hr, hs, Out.bind (P := Rep X.K) o fun x C1 F1 r1 H1 v e1 e2 hr1 hx o1 => ?_⟩
    unfold gIsOwn at o1
    cases x with
    | exc c0 f vs =>
      simp only at o1
      obtain ⟨a, C0, us, rfl, hn, ⟨d, hF, hd⟩, hu⟩ := hx
      cases hl : tb.lookup c0 with
      | none =>
        rw [hl] at o1
        exact False.elim o1
      | some as =>
        rw [hl] at o1
        obtain ⟨TC, hk⟩ := T c0 as hl C0 hn
        refine ⟨a, C0, d, c, cv, as.contains t, rfl, hr1.froz a _ hF, TC, ?_, hcv, hk, out_ok (d := .bl _) hr1 rfl o1⟩
        rcases hd with ⟨_, hd⟩ | ⟨u, dd, _, hd, hdd⟩
        · exact .inl hd
        · exact .inr ⟨dd, _, hd, hr1.froz dd _ hdd⟩
    | _ => exact False.elim o1⟩
end
section
variable {X : Cx}
end
/-- the classes that a tuple names, by their values -/
inductive OwnFs (K : PySem.W.Frag) (tb : List (Str × List Str)) : List Str → List V → List Value → Prop
  | nil : OwnFs K tb [] [] []
  | cons {t : Str} {c : V} {cv : Value} {ts : List Str} {cs : List V} {cvs : List Value} (h : OwnF K tb t cv) (hc : ∀ u, RelV c u → u = cv) (r : OwnFs K tb ts cs cvs) : OwnFs K tb (t :: ts) (c :: cs) (cv :: cvs)
theorem OwnFs.any {K : PySem.W.Frag} {tb : List (Str × List Str)} {ts : List Str} {cs : List V} {cvs : List Value} (h : OwnFs K tb ts cs cvs) {c : Str} {as : List Str} (hl : tb.lookup c = some as) {C : Addr} (hn : PySem.W.nsIn K mainGlobals c = some (some (.ref C))) :
    PySem.W.kitAny K (.ref C) cvs = some (ts.any fun t => as.contains t) := by
  induction h with
  | nil => rfl
  | @cons t c' cv ts cs cvs h hc r ih =>
    obtain ⟨_, hk⟩ := h c as hl C hn
    show (match PySem.W.kitOne K (.ref C) cv with
      | some true => some true
      | some false => PySem.W.kitAny K (.ref C) cvs
      | none => none) = _
    rw [hk, List.any_cons]
    cases as.contains t with
    | true => rfl
    | false => exact ih
section
variable {X : Cx} {E : XK} {e te : Expr} {es : List Expr} {m : ME} {ts : List Str} {tb : List (Str × List Str)} {cs : List V} {cvs : List Value} {k : Nat} {p1 p2 pos : Pos}
theorem pcs_nil : PA X [] (fun _ H Q => Q [] H) := pa_nil
theorem pcs_cons {c : V} (h : PE X te (tC c)) (r : PA X es (fun _ H Q => Q cs H)) (hs : starEach (te :: es) X.env = (false, eval te X.env) :: starEach es X.env := by rfl) : PA X (te :: es) (fun _ H Q => Q (c :: cs) H) := pa_cons h r (hs := hs)
end
/-! by facts of the text alone -/
def OwnX (K : PySem.W.Frag) (mg : Str → Option Value) (tb : List (Str × List Str)) (t : Str) : Prop :=
  ∃ (c : V) (cv : Value), OwnF K tb t cv ∧ (∀ u, RelV c u → u = cv) ∧ RelV c cv ∧ (mg t = some cv ∨ (mg t = none ∧ bootBuiltins t = some cv ∧ t ≠ "__name__"))
section
variable {X : Cx} {E : XK} {e : Expr} {es : List Expr} {m : ME} {t : Str} {ts : List Str} {tb : List (Str × List Str)} {k : Nat} {p1 p2 p pos : Pos}
theorem pe_own {c : V} {cv : Value} (h : X.mg t = some cv ∨ (X.mg t = none ∧ bootBuiltins t = some cv ∧ t ≠ "__name__")) (hr : RelV c cv) (hg : Gl X t) (hd : (t == ("__debug__" : Str)) = false) : PE X (.Name t p) (tC c) := by
  rcases h with h | ⟨h1, h2, h3⟩
  · exact pe_glob hg h hr hd
  · exact pe_bltn hg h1 h2 hr h3 hd
theorem ne_isOwnX (h : OwnX X.K X.mg tb t) (his : X.mg "isinstance" = none) (he : NE X E e m) (hg : Gl X t := by rfl) (hd : (t == ("__debug__" : Str)) = false := by decide) (hgi : Gl X "isinstance" := by rfl)
    (h1 : starEach [e, .Name t p2] X.env = (false, eval e X.env) :: starEach [.Name t p2] X.env := by rfl) (h2 : starEach [.Name t p2] X.env = (false, eval (.Name t p2) X.env) :: starEach [] X.env := by rfl) (h3 : (backTo pos (starEach [.Name t p2] X.env)).any (·.1) = false := by rfl) :
    NE X E (.Call (.Name "isinstance" p1) [e, .Name t p2] [] pos) (m1 (gIsOwn tb t) m) := by
  obtain ⟨c, cv, hF, hu, hr, hn⟩ := h
  exact ne_isOwn hF hu his (pe_own hn hr hg hd) he hgi h1 h2 h3
/-- the names in the tuple -/
inductive OwnsP (X : Cx) (tb : List (Str × List Str)) : List Expr → List Str → Prop
  | nil : OwnsP X tb [] []
  | cons {t : Str} {p : Pos} {es : List Expr} {ts : List Str} (h : OwnX X.K X.mg tb t) (r : OwnsP X tb es ts) (hg : Gl X t := by rfl) (hd : (t == ("__debug__" : Str)) = false := by decide) (hs : starEach (.Name t p :: es) X.env = (false, eval (.Name t p) X.env) :: starEach es X.env := by rfl) : OwnsP X tb (.Name t p :: es) (t :: ts)
theorem OwnsP.all (h : OwnsP X tb es ts) : ∃ cs cvs, OwnFs X.K tb ts cs cvs ∧ PA X es (fun _ H Q => Q cs H) ∧ cs.length = es.length := by
  induction h with
  | nil => exact ⟨[], [], .nil, pcs_nil, rfl⟩
  | @cons t p es ts h r hg hd hs ih =>
    obtain ⟨cs, cvs, i1, i2, i3⟩ := ih
    obtain ⟨c, cv, hF, hu, hr, hn⟩ := h
    exact ⟨c :: cs, cv :: cvs, .cons hF hu i1, pcs_cons (pe_own hn hr hg hd) i2 hs, by simp [i3]⟩
theorem kit_ref {K : PySem.W.Frag} {C T : Addr} {b : Bool} (h1 : C ≠ T) (h2 : PySem.W.hasDictIn K T = true) (h3 : PySem.W.typeIn K (.ref T) = some (.type "type")) (h4 : PySem.W.subIn K (.ref C) (.ref T) = some b) : PySem.W.kitOne K (.ref C) (.ref T) = some b := by
  obtain ⟨cd, hc, _⟩ := PySem.W.any_some h2
  show (if ((Value.ref C : Value) == .ref T) = true then some true else PySem.W.kitCls K (.ref C) (.ref T)) = some b
  rw [if_neg (fun z => h1 (Value.ref.inj (beq_iff_eq.mp z)))]
  show (if ((PySem.W.clsIn K T).isSome && PySem.W.typeIn K (.ref T) == some (.type "type")) = true then PySem.W.subIn K (.ref C) (.ref T) else none) = some b
  rw [if_pos (by rw [hc, h3] <;> rfl)]
  exact h4
theorem kit_self {K : PySem.W.Frag} {C : Addr} : PySem.W.kitOne K (.ref C) (.ref C) = some true := by
  show (if ((Value.ref C : Value) == .ref C) = true then some true else _) = some true
  rw [if_pos (by simp)]
theorem kit_ve {K : PySem.W.Frag} {C : Addr} (tv : PySem.W.subIn K (.ref C) (.type "ValueError") = some true) : PySem.W.kitOne K (.ref C) (.type "ValueError") = some true := by
  show (if ((Value.ref C : Value) == .type "ValueError") = true then some true else PySem.W.kitCls K (.ref C) (.type "ValueError")) = some true
  rw [if_neg (fun z => by have z := beq_iff_eq.mp z; cases z)]
  show (if PySem.W.kitMeta "ValueError" = true then PySem.W.subIn K (.ref C) (.type "ValueError") else none) = some true
  rw [if_pos (by decide +kernel)]
  exact tv
end
/-! raise and keep, by facts of the text -/
def Raise0 (K : PySem.W.Frag) (mg : Str → Option Value) (x : Str) : Prop := ∃ C : Addr, Err0 K mg x C
def KeepX (K : PySem.W.Frag) (mg : Str → Option Value) (x : Str) (cs : List Str) : Prop := ∃ R : Addr, mg x = some (.ref R) ∧ KeepF K mg cs R
section
variable {X : Cx} {E : XK} {x n y t : Str} {cs : List Str} {body : List Stmt} {np p p1 p2 p3 rp pos pos' : Pos} {mb : MS} {k : Nat}
theorem ns_raise0X (h : Raise0 X.K X.mg x) (hc : X.calm = true) (tk : L2.Takes X (fun cls d _ H => E cls d H)) (hg : Gl X x := by rfl) (hdb : (x == ("__debug__" : Str)) = false := by decide) :
    NS X E (.Raise (some (.Call (.Name x p) [.Constant (.str t) k p2] [] pos)) none rp) (sRaise0 x) := by
  obtain ⟨C, T⟩ := h
  exact ns_raise0 T hc tk hg hdb
end
end Nv

namespace Nv
open PySem PySem.Spec PyProof.Rows L2
section
variable {X : Cx} {E : XK} {x y n rx : Str} {C : Addr} {i j : Nat} {body : List Stmt} {np p1 p2 p3 p4 p5 p6 p7 p8 p13 q1 q2 pos pos' : Pos} {mb : MS}
end
section
variable {sl : Sl} {C : Store} {QS : Fl → Sl → Store → Prop} {x : Str} {i j : Nat} {cs : List Str} {b : Bool}
end
end Nv

namespace Nv
open PySem PySem.Spec PyProof.Rows L2
/-! several classes of own errors at once; the field of a kept one -/
def ExT (K : PySem.W.Frag) (tb : List (Str × List Str)) : Prop := ∀ c as, tb.lookup c = some as → ∀ C : Addr, PySem.W.nsIn K mainGlobals c = some (some (.ref C)) → ExcC K C
def KitT (K : PySem.W.Frag) (tb : List (Str × List Str)) (t : Str) (cv : Value) : Prop := ∀ c as, tb.lookup c = some as → ∀ C : Addr, PySem.W.nsIn K mainGlobals c = some (some (.ref C)) → PySem.W.kitOne K (.ref C) cv = some (as.contains t)
def NoFld (K : PySem.W.Frag) (tb : List (Str × List Str)) (f : Str) : Prop := ∀ c as, tb.lookup c = some as → ∀ C : Addr, PySem.W.nsIn K mainGlobals c = some (some (.ref C)) → PySem.W.findIn K (.ref C) f = some none
theorem look_cons {c c0 : Str} {as as0 : List Str} {tb : List (Str × List Str)} (h : List.lookup c ((c0, as0) :: tb) = some as) : (c = c0 ∧ as = as0) ∨ tb.lookup c = some as := by
  by_cases e : c = c0
  · subst e
    simp [List.lookup] at h
    exact .inl ⟨rfl, h.symm⟩
  · have h2 : (c == c0) = false := by simpa using e
    simp only [List.lookup, h2] at h
    exact .inr h
section
variable {K : PySem.W.Frag} {mg : Str → Option Value} {tb : List (Str × List Str)} {c t f x : Str} {as : List Str} {C0 : Addr} {cv : Value} {cs : List Str} {R : Addr}
theorem exT_nil : ExT K [] := fun _ _ h => nomatch h
theorem exT_cons (hc : PySem.W.nsIn K mainGlobals c = some (some (.ref C0))) (T : ExcC K C0) (r : ExT K tb) : ExT K ((c, as) :: tb) := fun c' as' hl C hn => by
  rcases look_cons hl with ⟨rfl, rfl⟩ | h
  · rw [hc] at hn
    cases hn
    exact T
  · exact r _ _ h C hn
theorem kitT_nil : KitT K [] t cv := fun _ _ h => nomatch h
theorem kitT_cons (hc : PySem.W.nsIn K mainGlobals c = some (some (.ref C0))) (T : PySem.W.kitOne K (.ref C0) cv = some (as.contains t)) (r : KitT K tb t cv) : KitT K ((c, as) :: tb) t cv := fun c' as' hl C hn => by
  rcases look_cons hl with ⟨rfl, rfl⟩ | h
  · rw [hc] at hn
    cases hn
    exact T
  · exact r _ _ h C hn
theorem noF_nil : NoFld K [] f := fun _ _ h => nomatch h
theorem noF_cons (hc : PySem.W.nsIn K mainGlobals c = some (some (.ref C0))) (T : PySem.W.findIn K (.ref C0) f = some none) (r : NoFld K tb f) : NoFld K ((c, as) :: tb) f := fun c' as' hl C hn => by
  rcases look_cons hl with ⟨rfl, rfl⟩ | h
  · rw [hc] at hn
    cases hn
    exact T
  · exact r _ _ h C hn
def OwnK (K : PySem.W.Frag) (mg : Str → Option Value) (tb : List (Str × List Str)) (t : Str) : Prop :=
  ∃ (c : V) (cv : Value), KitT K tb t cv ∧ (∀ u, RelV c u → u = cv) ∧ RelV c cv ∧ (mg t = some cv ∨ (mg t = none ∧ bootBuiltins t = some cv ∧ t ≠ "__name__"))
theorem ownK_ref {T : Addr} (hm : mg t = some (.ref T)) (h : KitT K tb t (.ref T)) : OwnK K mg tb t := ⟨.ref T, .ref T, h, fun _ k => k, rfl, .inl hm⟩
theorem ownK_ty {n : String} (hm : mg t = none) (hb : bootBuiltins t = some (.type n)) (hn : t ≠ "__name__") (h : KitT K tb t (.type n)) : OwnK K mg tb t := ⟨.ty n, .type n, h, fun _ k => k, rfl, .inr ⟨hm, hb, hn⟩⟩
theorem ownX_of (hE : ExT K tb) (h : OwnK K mg tb t) : OwnX K mg tb t := by
  obtain ⟨c, cv, hk, h1, h2, h3⟩ := h
  exact ⟨c, cv, fun c' as hl C hn => ⟨hE c' as hl C hn, hk c' as hl C hn⟩, h1, h2, h3⟩
theorem keepF_nil : KeepF K mg [] R := fun _ h => nomatch h
theorem keepF_cons (hc : PySem.W.nsIn K mainGlobals c = some (some (.ref C0))) (gC : mg c = some (.ref C0)) (te : PySem.W.exmOne K (.ref C0) (.ref R) = some true) (r : KeepF K mg cs R) : KeepF K mg (c :: cs) R := fun c' hc' C hC => by
  rcases List.mem_cons.mp hc' with rfl | h
  · rw [gC] at hC
    cases hC
    exact ⟨hc, te⟩
  · exact r c' h C hC
theorem keepX_of (gR : mg x = some (.ref R)) (h : KeepF K mg cs R) : KeepX K mg x cs := ⟨R, gR, h⟩
end
/-- the field of a kept error -/
def tXh (K : PySem.W.Frag) (f : Str) (te : TE) : TE := fun σ H Q => te σ H fun x H1 => ∃ (a C dd : Addr) (fs : List (Str × V)) (v : V), x = .ref a ∧ H1 a = some (.ext (excφ a C (some dd))) ∧ ExcC K C ∧ PySem.W.findIn K (.ref C) f = some none ∧ H1 dd = some (.xd fs) ∧ fs.lookup f = some v ∧ Q v H1
def gXF (tb : List (Str × List Str)) (f : Str) (x : D) (C : Store) : RE := match x with
  | .exc c g [v] => match tb.lookup c with
    | some _ => if g = f then .ok (v, C) else .no
    | none => .no
  | _ => .no
section
variable {X : Cx} {E : XK} {e : Expr} {te : TE} {m : ME} {f : Str} {pos : Pos} {tb : List (Str × List Str)}
theorem pe_xh (he : PE X e te) (hb : attributeBase e f X.env (eval e X.env) = eval e X.env) : PE X (.Attribute e f pos) (tXh X.K f te) := by
  refine ⟨fun pins s σ H Q I h => ?_⟩
  refine attr_of hb (thn (he.run pins s σ H _ I h) fun u s1 hh => ?_)
  obtain ⟨x, H1, I1, rx, a, C, dd, fs, v, rfl, ha, T, hno, hdx, l, q⟩ := hh
  obtain rfl : u = Value.ref a := rx
  have hx : ObjOk X.prog X.w H1 s1.heap a (.ext (excφ a C (some dd))) := I1.hok a _ ha
  obtain ⟨⟨oe, q1, q2, q3, vs, q4⟩, _, _⟩ := hx
  have hy : ObjOk X.prog X.w H1 s1.heap dd (.xd fs) := I1.hok dd _ hdx
  obtain ⟨mA, hns, hr⟩ := hy
  obtain ⟨od, ho, hl⟩ := lookIn_ns hns
  obtain ⟨u, hu, ru⟩ := RelO.some_of (v := v) (o := mA f) (by rw [← l]; exact hr f)
  have J : PySem.W.InstAt s1.heap a oe C (some od) := ⟨q1, q2, by unfold PySem.W.notCls; rw [q4] <;> rfl, by rw [q3]; exact ho⟩
  exact HandSPX.exc_get I1.kIn J T.hg T.hk T.hs (PySem.W.findObj_own T.hd hno rfl (by rw [hl, hu])) (handed_of ru) ⟨v, H1, I1.tok _, ru, q⟩
theorem ne_excF (hE : ExT X.K tb) (hF : NoFld X.K tb f) (he : NE X E e m) (hb : attributeBase e f X.env (eval e X.env) = eval e X.env := by rfl) : NE X E (.Attribute e f pos) (m1 (gXF tb f) m) :=
  ⟨pe_imp (pe_xh he.pe hb) fun s H Q q => by
    obtain ⟨B, F, r, sl, C, hr, hs, o⟩ := q
    refine ⟨B, F, r, sl, C, hr, hs, Out.bind (P := Rep X.K) o fun x C1 F1 r1 H1 v e1 e2 hr1 hx o1 => ?_⟩
    simp only [gXF] at o1
    split at o1
    · rename_i c0 g v0
      obtain ⟨a, C0, us, rfl, hn, ⟨d, hFa, hd⟩, hu⟩ := hx
      split at o1
      · rename_i as hl
        split at o1
        · rename_i hg
          subst hg
          obtain ⟨w, us2, rfl, hw, h2⟩ := hu
          cases (show us2 = [] from h2)
          rcases hd with ⟨hd, _⟩ | ⟨u, dd, hd, rfl, hdd⟩
          · cases hd
          · cases hd
            exact ⟨a, C0, dd, _, w, rfl, hr1.froz a _ hFa, hE c0 as hl C0 hn, hF c0 as hl C0 hn, hr1.froz dd _ hdd, by simp [List.lookup], out_ok hr1 hw o1⟩
        · exact False.elim o1
      · exact False.elim o1
    · exact False.elim o1⟩
end
section
variable {C : Store} {QD : D → Store → Prop} {tb : List (Str × List Str)}
theorem w_excF {f c : Str} {v : D} {as : List Str} (hl : tb.lookup c = some as) (q : QD v C) : W (gXF tb f (.exc c f [v]) C) QD := by
  refine W.of (a := v) (C := C) ?_ q
  show (match tb.lookup c with
    | some _ => if f = f then R.ok (v, C) else .no
    | none => .no) = _
  rw [hl]
  simp
end
end Nv

namespace Nv
open PySem PySem.Spec PyProof.Rows L2
/-! defs that are called while an error is held: except R as n: y = f(n), return f(n) -/
abbrev RoomQ := L2H.RoomH
theorem roomQ {X : Cx} {a : Addr} {pn : List (Addr × Obj)} {j k : Nat} (r : L2.Room k X.A) (h : j ≤ k) : RoomQ j (X.suite a pn).A := ⟨by have := r.dp; show X.A.depth + 3 * j + 5 < recursionLimit; omega, by have := r.un; show X.A.units + 16 * j + 200 < cLine; omega⟩
theorem RoomQ.units {k : Nat} {A : Around} (r : RoomQ k A) : A.units + 64 < cLine := by have := r.un; omega
abbrev cxQ (P : Program) (w : World) (K : PySem.W.Frag) (mg : Str → Option Value) (base : Heap) (N : List Str) (qual : Str) (scope : Scope) (f : Addr) (cd : Value) (A : Around) (outer : List Env) (s : Shared) (H : Hp) (E : XK) : Cx :=
  { cxOf (L2.CX P w) P w K mg base N qual scope f cd A outer s H E with calm := false }
structure FnQ (P : Program) (w : World) (K : PySem.W.Frag) (mg : Str → Option Value) (base : Heap) (k : Nat) (f : Addr) (fd : FuncData) (ps : List Str) (sp : Sp) : Prop where
  len : ∀ vs H Q E, sp vs H Q E → vs.length = ps.length
  run : ∀ (A : Around) (outer : List Env) (s : Shared) (H : Hp) (args : Args) (us : List Value) (vs : List V) (Q : VK) (E : XK), RoomQ k A →
    Env0 P w K mg base A outer s H → BindsTo s fd args (ps.zip us) → Vals vs us → sp vs H Q E → codeAny (model P w) A (.call (.ref f) args) (CR (L2.CX P w) outer P w H s Q E) s
section
variable {P : Program} {w : World} {K : PySem.W.Frag} {mg : Str → Option Value} {base : Heap}
theorem inv_q {N ps : List Str} {qual : Str} {scope : Scope} {f : Addr} {cd : Value} {A : Around} {outer : List Env} {s s1 : Shared} {H : Hp} {E : XK} {us : List Value} {vs : List V}
    (S : FnScope N ps scope) (e0 : Env0 P w K mg base A outer s H) (hl : vs.length = ps.length) (r : Vals vs us)
    (x : InCallC s s.heap.objs.size (bindL (envOfC qual scope s.heap.objs.size f cd).kindOf (ps.zip us) fun _ => none) (cellsFrom (s.heap.objs.size + 1) scope.names []) (bindC (envOfC qual scope s.heap.objs.size f cd).kindOf (ps.zip us) fun _ => none) s1) :
    Inv (cxQ P w K mg base N qual scope f cd A outer s H E) [] (start N vs) H s1 := by
  have e1 : Env0 P w K mg base { A with handled := none } outer s H := ⟨e0.frames, e0.mod, e0.bs, e0.bsz, e0.funs, e0.frf, e0.hok, e0.bare⟩
  have I : Inv (cxOf (L2.CX P w) P w K mg base N qual scope f cd { A with handled := none } outer s H E) [] (start N vs) H s1 := inv_start S rfl e1 hl r x
  exact ⟨⟨I.ok.mod, I.ok.kind, I.ok.glob, I.ok.blt, I.ok.above, I.ok.inj, I.ok.has, I.ok.cab, (fun z => absurd (show false = true from z) Bool.false_ne_true), Around.frames_deeper e0.frames, I.ok.stk, I.ok.exf, I.ok.bs, I.ok.bsz, I.ok.noex, I.ok.exfs, I.ok.funs, I.ok.frf⟩,
    I.os, I.bare, I.base, I.loc, I.cell, I.free, I.freeC, I.pin, I.hok, I.len⟩
theorem fnQ_of {x qual : Str} {st : Stmt} {f : Addr} {fd : FuncData} {N ps : List Str} {k : Nat} {sp : Sp} (F : Fun K x qual st f fd) (S : FnScope N ps (defScope st)) (len : ∀ vs H Q E, sp vs H Q E → vs.length = ps.length)
    (hbody : ∀ (cdv : Value) (A : Around) (outer : List Env) (s : Shared) (H : Hp) (vs : List V) (Q : VK) (E : XK), RoomQ k (A.deeper (envOfC qual (defScope st) s.heap.objs.size f cdv)) → sp vs H Q E →
      ∃ t, PSs (cxQ P w K mg base N qual (defScope st) f cdv A outer s H E) (defBody st) t ∧ t { nx := fun _ H' => Q .non H', rt := Q } (start N vs) H) : FnQ P w K mg base (k + 1) f fd ps sp := by
  obtain ⟨oc, od, kV, doc, pm, an, cdv, ct, osl, rfl, lk, hcd⟩ := F.ex
  refine ⟨len, fun A outer s H args us vs Q E hr e0 hb r hsp => ?_⟩
  have hl := len _ _ _ _ hsp
  have there : K.In s.heap := e0.mod.kin.keeps fun b o e => (e0.bs b o e).1
  have lim : s.heap.NoLimit := e0.mod.nolimit.keeps fun b o e => (e0.bs b o e).1
  refine codeAny_call_function hr.depth (there _ _ lk) rfl S.co S.gen rfl (PySem.W.codeRec_of there hcd) (hb _ _ _ _ ?_)
  refine wpAny_newFunctionEnv_cells S.kind (fun ⟨n, v⟩ hy => ?_) fun env he s1 x => ?_
  · rcases S.par n (List.of_mem_zip hy).1 with q | q
    · exact .inl q
    · exact .inr ⟨q, PySem.W.cellsFrom_some _ _ _ (.inl q)⟩
  subst he
  refine ⟨lim.keeps x.toInCall.keep, codeAny_func ?_⟩
  obtain ⟨t, ht, hq⟩ := hbody cdv A outer s H vs Q E (hr.deeper _) hsp
  have I : Inv (cxQ P w K mg base N qual (defScope st) f cdv A outer s H E) [] (start N vs) H s1 := inv_q S e0 hl r x
  refine wpAny_mono (ht.run [] s1 (start N vs) H _ I hq) (fun fl s' hs => ?_) fun e s' hs => hs
  cases fl with
  | ret u =>
    obtain ⟨v, σ', H', J, rv, q⟩ := hs
    exact ⟨v, H', J.os, J.bare, J.base, J.hok, rv, q⟩
  | next =>
    obtain ⟨σ', H', J, q⟩ := hs
    exact ⟨.non, H', J.os, J.bare, J.base, J.hok, rfl, q⟩
  | brk => obtain ⟨_, _, _, q⟩ := hs; exact False.elim q
  | cont => obtain ⟨_, _, _, q⟩ := hs; exact False.elim q
theorem okDQ {x qual : Str} {st : Stmt} {f : Addr} {fd : FuncData} {N ps : List Str} {k : Nat} {u : MS} (F : Fun K x qual st f fd) (S : FnScope N ps (defScope st))
    (hb : ∀ (cdv : Value) (A : Around) (outer : List Env) (s : Shared) (H : Hp) (E : XK), RoomQ k (A.deeper (envOfC qual (defScope st) s.heap.objs.size f cdv)) →
      NSs (cxQ P w K mg base N qual (defScope st) f cdv A outer s H E) E (defBody st) u) : FnQ P w K mg base (k + 1) f fd ps (spN K mg ps.length (runD N.length u)) := by
  refine fnQ_of F S spN_len fun cdv A outer s H vs Q E hr h => ⟨_, (hb cdv A outer s H E hr).ps, ?_⟩
  obtain ⟨B, F, r, C, ds, hr, hd, hl, o⟩ := h
  refine ⟨B, F, r, _, C, hr, Sls.start hd, ?_⟩
  unfold runD at o
  cases hu : u (ds.map some ++ List.replicate (N.length - ds.length) none) C with
  | ok p =>
    obtain ⟨⟨fl, sl'⟩, C'⟩ := p
    rw [hu, R.bind_ok] at o
    intro F' r' H' e1 e2 hr'
    cases fl with
    | nx => exact fun s' _ => fin_ok (d := .non) hr e1 e2 hr' rfl o
    | rt d => exact fun v hv => fin_ok hr e1 e2 hr' hv o
    | bk => exact False.elim o
    | ct => exact False.elim o
  | ex y Cy => rw [hu] at o; exact o
  | no => rw [hu] at o; exact o
def CalQ (P : Program) (w : World) (K : PySem.W.Frag) (mg : Str → Option Value) (base : Heap) (x : Str) (k n : Nat) (mf : MF) : Prop :=
  ∃ f fd ps, FnQ P w K mg base k f fd ps (spN K mg n mf) ∧ mg x = some (.ref f) ∧ PySem.W.keepIn K (.ref f) = true ∧ L2.Binds K fd ps []
theorem CalQ.of {x : Str} {st : Stmt} {N ps : List Str} {k : Nat} {u : MS} (h : DefAt K mg x st ps) (S : FnScope N ps (defScope st))
    (hb : ∀ (f : Addr) (cdv : Value) (A : Around) (outer : List Env) (s : Shared) (H : Hp) (E : XK), RoomQ k (A.deeper (envOfC x (defScope st) s.heap.objs.size f cdv)) →
      NSs (cxQ P w K mg base N x (defScope st) f cdv A outer s H E) E (defBody st) u) : CalQ P w K mg base x (k + 1) ps.length (runD N.length u) := by
  obtain ⟨f, fd, h1, h2, h3⟩ := h
  exact ⟨f, fd, ps, okDQ h1 S fun cdv A outer s H E hr => hb f cdv A outer s H E hr, h2, h1.kp, h3⟩
end
section
variable {X : Cx} {E : XK} {e : Expr} {es : List Expr} {mas : MG (List D)} {pos p1 : Pos} {k n : Nat} {x : Str} {mf : MF}
theorem ne_calQ (h : CalQ X.prog X.w X.K X.mg X.base x k n mf) (hr : RoomQ k X.A) (hx : Passes (L2.CX X.prog X.w) X E) (ha : NA X E (e :: es) mas) (hg : Gl X x := by rfl)
    (hdb : (x == ("__debug__" : Str)) = false := by decide) (he : starEach (e :: es) X.env = (false, eval e X.env) :: starEach es X.env := by rfl) (hpl : (backTo pos (starEach es X.env)).any (·.1) = false := by rfl) : NE X E (.Call (.Name x p1) (e :: es) [] pos) (mF n mf mas) := by
  obtain ⟨f, fd, ps, F, hm, hk, hb⟩ := h
  refine ⟨⟨fun pins s σ H Q I q => ?_⟩⟩
  obtain ⟨B, F0, r, sl, C, hr0, hs, o⟩ := q
  refine wpAny_Call_Name_kw (ld_glob I hg hm ?_ hdb)
  refine PySem.W.callWith_K (h₀ := X.base) I.ok.mod.kin hk (thn (ha.pa.run pos pins s σ H (fun vs H1 => spN X.K X.mg n mf vs H1 Q E) I ⟨B, F0, r, sl, C, hr0, hs, Out.bind (P := Reps X.K) o fun xs C1 F1 r1 H1 vs e1 e2 hr1 hxs o1 => ?_⟩) fun us s1 z => ?_) he hpl
  · simp only at o1
    split at o1
    · rename_i hl
      exact ⟨B, F1, r1, C1, xs, hr1, hxs, hl, o1⟩
    · exact False.elim o1
  · obtain ⟨vs, H1, I1, rv, q1⟩ := z
    refine ⟨I1.kIn, ?_⟩
    have hl : (us ++ []).length = ps.length := by
      rw [List.append_nil, ← rv.length]
      exact F.len _ _ _ _ q1
    have hb1 := hb s1 us I1.kIn hl
    rw [List.append_nil] at hb1
    refine wpAny_call (codeAny_mono (F.run X.A X.stack s1 H1 ⟨us, []⟩ us vs Q E hr I1.env0 hb1 rv q1) fun rr s' hq => ?_)
    cases rr with
    | error z => exact hx pins σ H1 s1 z s' I1 hq
    | ok fl =>
      cases fl with
      | ret u => exact I1.after hq
      | next => exact False.elim hq
      | brk => exact False.elim hq
      | cont => exact False.elim hq
end
/-! the clause -/
def endsQ (i : Nat) (De : Ends) : Ends := { nx := fun σ H => De.nx (σ.set i none) H, rt := De.rt, bk := fun σ H => De.bk (σ.set i none) H, ct := fun σ H => De.ct (σ.set i none) H }
section
variable {X : Cx} {pins : List (Addr × Obj)} {σ : L2.St} {H : Hp} {s : Shared}
theorem inv_drop {a : Addr} {p : Addr × Obj} {pn : List (Addr × Obj)} (I : Inv (X.suite a (p :: pn)) [] σ H s) (ok : X.Ok) : Inv (X.suite a pn) [] σ H s :=
  ⟨ok.suite _ _, I.os, I.bare, I.base, I.loc, I.cell, I.free, I.freeC, fun q hq => I.pin q (by rw [List.append_nil] at hq ⊢; exact List.mem_cons_of_mem _ hq), I.hok, I.len⟩
theorem inv_unq {a : Addr} (I : Inv (X.suite a (X.pn ++ pins)) [] σ H s) (ok : X.Ok) : Inv X pins σ H s :=
  ⟨ok, I.os, I.bare, I.base, I.loc, I.cell, I.free, I.freeC, fun q hq => I.pin q (by rw [List.append_nil]; exact hq), I.hok, I.len⟩
end
section
variable {X : Cx} {x n : Str} {c : Value} {i : Nat} {body suite : List Stmt} {b₀ : Stmt} {np pos pos' : Pos} {tb : WX → TS} {ts : TS}
end
abbrev XN : XK := fun _ _ _ => False
section
variable {X : Cx} {E : XK} {x n : Str} {R : Addr} {body suite : List Stmt} {b₀ : Stmt} {np pos pos' : Pos} {mb u : MS}
theorem pass_suite {a : Addr} {pn : List (Addr × Obj)} : Passes (L2.CX X.prog X.w) (X.suite a pn) XN := passes_call (X := X.suite a pn) takes_none5 fun _ _ _ _ h => h
end
section
variable {sl : Sl} {C : Store} {QS : Fl → Sl → Store → Prop} {x : Str} {i : Nat} {cs : List Str} {u : MS} {e : Exn}
end
end Nv

namespace Nv
open PySem PySem.Spec PyProof.Rows L2
/-! try: a call by keywords in its body; several clauses, each y = "text" -/
section
variable {X : Cx} {W : WX} {x : Str} {p pos : Pos} {k n : Nat}
end
/-- of which rows' classes a clause R is -/
def ExmT (K : PySem.W.Frag) (mg : Str → Option Value) (tb : List (Str × List Str)) (R : Str) : Prop :=
  ∃ Ra : Addr, mg R = some (.ref Ra) ∧ ∀ c as, tb.lookup c = some as → ∀ C : Addr, mg c = some (.ref C) → PySem.W.exmOne K (.ref C) (.ref Ra) = some (as.contains R)
def ExmR (K : PySem.W.Frag) (mg : Str → Option Value) (tb : List (Str × List Str)) (R : Str) (Ra : Addr) : Prop := ∀ c as, tb.lookup c = some as → ∀ C : Addr, mg c = some (.ref C) → PySem.W.exmOne K (.ref C) (.ref Ra) = some (as.contains R)
section
variable {K : PySem.W.Frag} {mg : Str → Option Value} {tb : List (Str × List Str)} {c R : Str} {as : List Str} {C0 Ra : Addr}
theorem exmR_nil : ExmR K mg [] R Ra := fun _ _ h => nomatch h
theorem exmR_cons (gC : mg c = some (.ref C0)) (te : PySem.W.exmOne K (.ref C0) (.ref Ra) = some (as.contains R)) (r : ExmR K mg tb R Ra) : ExmR K mg ((c, as) :: tb) R Ra := fun c' as' hl C hC => by
  rcases look_cons hl with ⟨rfl, rfl⟩ | h
  · rw [gC] at hC
    cases hC
    exact te
  · exact r c' as' h C hC
theorem exmT_of (gR : mg R = some (.ref Ra)) (h : ExmR K mg tb R Ra) : ExmT K mg tb R := ⟨Ra, gR, h⟩
end
inductive NHds (X : Cx) (tb : List (Str × List Str)) (j : Nat) (y : Str) : List ExceptHandler → List (Str × Str) → Prop
  | nil : NHds X tb j y [] []
  | cons {rx w : Str} {k : Nat} {q1 np p1 pos pos' : Pos} {hds : List ExceptHandler} {l : List (Str × Str)} (h : ExmT X.K X.mg tb rx) (t : NHds X tb j y hds l) (hg : Gl X rx := by rfl) (hdb : (rx == ("__debug__" : Str)) = false := by decide)
      (hsw : swapsWith (.Constant (.str w) k p1) (some (.Name y np)) pos.line X.env = pure false := by rfl) : NHds X tb j y (.ExceptHandler (some (.Name rx q1)) none [.Assign [.Name y np] (.Constant (.str w) k p1) pos] pos' :: hds) ((rx, w) :: l)
section
variable {X : Cx} {E : XK} {y : Str} {j : Nat} {body : List Stmt} {h₀ : ExceptHandler} {hds : List ExceptHandler} {l : List (Str × Str)} {q2 : Pos} {mb : MS} {tb : List (Str × List Str)}
theorem NHds.ok (hN : X.N.Nodup) (hj : X.N[j]? = some y) (hlj : Loc X.env.scope y) (hfn : X.fn y = true ∨ X.env.scope.names.lookup y = some .local) (h : NHds X tb j y hds l) :
    ∃ lv, HdsOk X hds lv ∧ ∀ (c : Str) (as : List Str) (C : Addr), tb.lookup c = some as → X.mg c = some (.ref C) → ∀ (w : Str × Str), (l.find? fun h => as.contains h.1) = some w → ∀ (Wout : WX) (De : Ends) (σ : L2.St) (H : Hp) (d : Option Addr), De.nx (σ.set j (some (.str w.2))) H → wMany X.K Wout De lv (.ref C) d σ H := by
  induction h with
  | nil => exact ⟨[], .nil, fun c as C _ _ w hw => nomatch hw⟩
  | @cons rx w k q1 np p1 pos pos' hds l h t hg hdb hsw ih =>
    obtain ⟨lv, h1, h2⟩ := ih
    obtain ⟨Ra, gR, T⟩ := h
    refine ⟨(.ref Ra, fun _ _ _ => tAsg (tC (.str w)) (gName j)) :: lv, .cons ⟨hg, hdb, .inl gR⟩ (fun a oe cls d pn hz hfs => pss_one (ps_set hN hj hlj pe_str hsw hfn)) h1, fun c as C hl hC w' hw Wout De σ H d q => ?_⟩
    refine ⟨as.contains rx, T c as hl C hC, fun hb a ha => ?_, fun hb => ?_⟩
    · rw [List.find?_cons_of_pos (by simpa using hb)] at hw
      cases hw
      exact q
    · rw [List.find?_cons_of_neg (by simpa using hb)] at hw
      exact h2 c as C hl hC w' hw Wout De σ H d q
end
section
variable {sl : Sl} {C : Store} {QS : Fl → Sl → Store → Prop} {x : Str} {j : Nat} {tb : List (Str × List Str)} {l : List (Str × Str)} {as : List Str} {w : Str × Str}
end
end Nv

namespace Nv
open PySem PySem.Spec PyProof.Rows L2
/-! several clauses with a name, each of which calls defs while the error is held; calls of a def out of a list of defs -/
def wHots (K : PySem.W.Frag) (De : Ends) : List (Value × Nat × TS) → WX
  | [] => fun _ _ _ _ => False
  | (c, i, ts) :: r => fun cls d σ H => ∃ b, PySem.W.exmOne K cls c = some b ∧ (b = true → ∃ C : Addr, cls = .ref C ∧ ∀ a, H a = none → ts (endsQ i De) (σ.set i (some (.ref a))) (upd H a (.ext (excφ a C d)))) ∧ (b = false → wHots K De r cls d σ H)
inductive HotsOk (X : Cx) : List ExceptHandler → List (Value × Nat × TS) → Prop
  | nil : HotsOk X [] []
  | cons {x n : Str} {c : Value} {i : Nat} {ts : TS} {b₀ : Stmt} {suite : List Stmt} {np pos' : Pos} {hds : List ExceptHandler} {l : List (Value × Nat × TS)} (hi : X.N[i]? = some n) (hln : X.env.kindOf n = some .local) (hc : Names X x c)
      (hsu : ∀ (a : Addr) (pn : List (Addr × Obj)), PSs (X.suite a pn) (b₀ :: suite) ts) (r : HotsOk X hds l) : HotsOk X (.ExceptHandler (some (.Name x np)) (some n) (b₀ :: suite) pos' :: hds) ((c, i, ts) :: l)
section
variable {X : Cx} {body : List Stmt} {h₀ : ExceptHandler} {hds : List ExceptHandler} {l : List (Value × Nat × TS)} {pos : Pos} {tb : WX → TS}
theorem ps_hots (hs : X.stack = X.env :: X.outer) (hf : X.env.frame = some X.env.locals) (hN : X.N.Nodup) (hex : X.ex = [])
    (hb : ∀ (W : WX) (pn : List (Addr × Obj)) (xe : Value → Shared → Prop), L2.Takes (X.tr pn xe) W → PassesOwn (model X.prog X.w) X.A X.env xe → PSs (X.tr pn xe) body (tb W)) (hh : HotsOk X (h₀ :: hds) l) :
    PS X (.Try body (h₀ :: hds) [] [] pos) (fun De σ H => tb (wHots X.K De l) De σ H) := by
  refine ⟨fun pins s σ H De I h => ?_⟩
  have okX := I.ok
  have frX : X.A.frames = some (X.env :: X.outer) := okX.frames.trans (by rw [hs])
  refine wpAny_Try_except (wpAny_mono ((hb (wHots X.K De l) (X.pn ++ pins) (fun e t1 => wpAny (model X.prog X.w) X.A (noteFrame e X.env) (fun _ t2 => wpAny (model X.prog X.w) X.A (setFlight e none) (fun _ t3 =>
    wpAny (model X.prog X.w) X.A (handleBy e X.env (h₀ :: hds)) (SP X pins De) X.xe t3) X.xe t2) X.xe t1) (fun u s' xx => ?_) PassesOwn.looking).run [] s σ H De (I.toTry _) h) (fun f s1 hsp => ?_) fun e s1 he => he)
  · obtain ⟨a, B, sI, pins', σ', H', cls, d, rfl, J', nb, up, sky, na, os, ag, w⟩ := xx
    have J : Inv X pins σ' H' sI := J'.ofTry okX
    have skyX : Sky B (X.env :: X.outer) a (Zc cls d) X.env.locals s'.heap := hs ▸ sky
    show wpAny (model X.prog X.w) X.A (noteFrame (.ref a) X.env) _ _ _
    refine Sky.land Zc.steady frX hf skyX fun h3 fl3 up3 => ?_
    have J3 : Inv X pins σ' H' { s' with heap := h3 } := J.landed nb fl3.1 (up.trans up3) os ag
    obtain ⟨oe3, vs3, he3, hz3, hd3⟩ := fl3.there
    have offF : a ∉ frs (X.env :: X.outer) := fun hm => by
      obtain ⟨_, o', e', hnf⟩ := fl3.2.2.1.mem hm
      rw [he3] at e'
      cases e'
      exact hnf _ hd3
    have nL : a ≠ X.env.locals := fun z => offF (List.mem_filterMap.mpr ⟨X.env, List.mem_cons_self, by rw [hf, z]⟩)
    have nF : a ∉ X.fs := fun hm => by
      obtain ⟨e, he, q⟩ := List.mem_filterMap.mp hm
      exact offF (List.mem_filterMap.mpr ⟨e, List.mem_cons_of_mem _ he, q⟩)
    have offI : sI.heap.get? a = none := by
      cases e : sI.heap.get? a with
      | none => rfl
      | some o =>
        have q := nb a o e (by rw [hs]; exact offF)
        rw [fl3.2.1] at q
        cases q
    have S3 := J3.suite he3 hd3 na nL nF
    have go : ∀ {hds' : List ExceptHandler} {l' : List (Value × Nat × TS)}, HotsOk X hds' l' → wHots X.K De l' cls d σ' H' →
        wpAny (model X.prog X.w) X.A (handleBy (.ref a) X.env hds') (SP X pins De) X.xe { s' with heap := h3 } := by
      intro hds' l' hk
      induction hk with
      | nil => exact fun w => False.elim w
      | @cons x n c i ts b₀ suite np pos' hds2 l2 hi hln hc hsu r ih =>
        intro w
        have locN : Loc X.env.scope n := .inl hln
        obtain ⟨b, hb1, hyes, hno⟩ := w
        refine wpAny_handleBy_cons (codeAny_handlers_test ?_) (fun q => by cases q)
        have LT : PySem.W.Looks (model X.prog X.w) h3 (typeOf (.ref a)) cls := fun A Q E t k q => wpAny_typeOf_ref (k _ _ he3) (by rw [hz3.1]; exact q)
        have LM := PySem.W.exm_one (M := model X.prog X.w) (J3.kIn) LT hb1
        have asks : ∀ {Q : Value → Shared → Prop} {E : Value → Shared → Prop}, Q c { s' with heap := h3 } → wpAny (model X.prog X.w) (X.A.mark (some (.ref a))) (eval (.Name x np) X.env) Q E { s' with heap := h3 } := fun {Q E} q => by
          obtain ⟨g1, g2, g3 | ⟨g3, g4, g5⟩⟩ := hc
          · exact ld_glob (X := X.suite a ((a, oe3) :: (X.pn ++ pins))) S3 g1 g3 q g2
          · exact ld_blt (X := X.suite a ((a, oe3) :: (X.pn ++ pins))) S3 g1 g3 g4 q g5 g2
        refine asks (LM.here ?_)
        cases b with
        | false =>
          show wpAny _ X.A (handleBy (.ref a) X.env hds2) _ _ _
          exact ih (hno rfl)
        | true =>
          obtain ⟨C, eC, keepq⟩ := hyes rfl
          refine codeAny_handlers_suite_as ?_
          refine HandSPX.lands_againZ fl3 fun h4 fl4 up4 => ?_
          have J4 : Inv X pins σ' H' { s' with heap := h4 } := J.landed nb fl4.1 ((up.trans up3).trans up4) os ag
          obtain ⟨oe4, vs4, he4, hz4, hd4⟩ := fl4.there
          rw [eC] at hz4
          have S4 := J4.suite he4 hd4 na nL nF
          refine store_ok (X := X.suite a ((a, oe4) :: (X.pn ++ pins))) (v := .ref a) S4 hN hi locN rfl (fun s5 S5 => ?_) (.inr hln)
          have at5 : s5.heap.get? a = some oe4 := (S5.pin (a, oe4) (List.mem_append_left _ List.mem_cons_self)).1
          have T5 := inv_track (o := .ext (excφ a C d)) (inv_drop S5 okX) (by
              show X.s_0.heap.get? a = none
              cases e : X.s_0.heap.get? a with
              | none => rfl
              | some o =>
                have hx : a ∉ X.ex := by rw [hex]; exact List.not_mem_nil
                obtain ⟨o', q⟩ := J.base.there a o e hx
                rw [offI] at q
                cases q) na nL (fun x c e z => by
              obtain ⟨v, o, q, _⟩ := J.cell x c e
              rw [z, offI] at q
              cases q) (fun p hp z => by
              have hp : p ∈ X.pn ++ pins := by
                have hp : p ∈ (X.pn ++ pins) ++ [] := hp
                rwa [List.append_nil] at hp
              have q := (J.pin p hp).1
              rw [z, offI] at q
              cases q) (exc_told ⟨oe4, at5, hz4.1, hz4.2, vs4, hd4⟩)
          refine wpAny_mono ((hsu a (X.pn ++ pins)).run [] s5 _ _ (endsQ i De) T5 (keepq a na)) (fun f s6 hsp => ?_) (fun _ _ z => False.elim z)
          cases f with
          | next =>
            obtain ⟨σ6, H6, S6, q6⟩ := hsp
            exact gone_ok (inv_unq S6 okX) hN hi hln fun s7 J7 => ⟨_, _, J7, q6⟩
          | brk =>
            obtain ⟨σ6, H6, S6, q6⟩ := hsp
            exact gone_ok (inv_unq S6 okX) hN hi hln fun s7 J7 => ⟨_, _, J7, q6⟩
          | cont =>
            obtain ⟨σ6, H6, S6, q6⟩ := hsp
            exact gone_ok (inv_unq S6 okX) hN hi hln fun s7 J7 => ⟨_, _, J7, q6⟩
          | ret u =>
            obtain ⟨v6, σ6, H6, S6, r6, q6⟩ := hsp
            exact gone_ok (inv_unq S6 okX) hN hi hln fun s7 J7 => ⟨_, _, _, J7, r6, q6⟩
    exact go hh w
  · cases f with
    | next =>
      obtain ⟨σ1, H1, J1, q⟩ := hsp
      exact wpAny_execs_nil ⟨σ1, H1, J1.ofTry okX, q⟩
    | brk =>
      obtain ⟨σ1, H1, J1, q⟩ := hsp
      exact ⟨σ1, H1, J1.ofTry okX, q⟩
    | cont =>
      obtain ⟨σ1, H1, J1, q⟩ := hsp
      exact ⟨σ1, H1, J1.ofTry okX, q⟩
    | ret u =>
      obtain ⟨v, σ1, H1, J1, r, q⟩ := hsp
      exact ⟨v, σ1, H1, J1.ofTry okX, r, q⟩
end
def hmHots (tb : List (Str × List Str)) (cs : List Str) (l : List (Str × Nat × MS)) : Exn → MS := fun e sl C => if e.cls ∈ cs then match tb.lookup e.cls with
  | some as => match l.find? fun h => as.contains h.1 with
    | some h => if h.2.1 < sl.length then match h.2.2 (sl.set h.2.1 (some (heldD e))) C with
      | .ok ((f, sl'), C') => .ok ((f, sl'.set h.2.1 none), C')
      | _ => .no
      else .no
    | none => .no
  | none => .no
  else .no
inductive NHots (X : Cx) (tb : List (Str × List Str)) : List ExceptHandler → List (Str × Nat × MS) → Prop
  | nil : NHots X tb [] []
  | cons {rx n : Str} {i : Nat} {u : MS} {b₀ : Stmt} {suite : List Stmt} {q1 pos' : Pos} {hds : List ExceptHandler} {l : List (Str × Nat × MS)} (h : ExmT X.K X.mg tb rx) (hsu : ∀ (a : Addr) (pn : List (Addr × Obj)), NSs (X.suite a pn) XN (b₀ :: suite) u) (t : NHots X tb hds l)
      (hi : X.N[i]? = some n := by rfl) (hln : X.env.kindOf n = some .local := by rfl) (hg : Gl X rx := by rfl) (hdb : (rx == ("__debug__" : Str)) = false := by decide) : NHots X tb (.ExceptHandler (some (.Name rx q1)) (some n) (b₀ :: suite) pos' :: hds) ((rx, i, u) :: l)
section
variable {X : Cx} {E : XK} {x : Str} {body : List Stmt} {h₀ : ExceptHandler} {hds : List ExceptHandler} {l : List (Str × Nat × MS)} {pos : Pos} {mb : MS} {tb : List (Str × List Str)}
theorem NHots.ok (h : NHots X tb hds l) : ∃ lv, HotsOk X hds lv ∧ ∀ (c : Str) (as : List Str) (C : Addr), tb.lookup c = some as → X.mg c = some (.ref C) → ∀ (w : Str × Nat × MS), (l.find? fun h => as.contains h.1) = some w → ∀ (De : Ends) (σ : L2.St) (H : Hp) (d : Option Addr),
    (∀ a, H a = none → LS X.K X.mg XN w.2.2 (endsQ w.2.1 De) (σ.set w.2.1 (some (.ref a))) (upd H a (.ext (excφ a C d)))) → wHots X.K De lv (.ref C) d σ H := by
  induction h with
  | nil => exact ⟨[], .nil, fun c as C _ _ w hw => nomatch hw⟩
  | @cons rx n i u b₀ suite q1 pos' hds l h hsu t hi hln hg hdb ih =>
    obtain ⟨lv, h1, h2⟩ := ih
    obtain ⟨Ra, gR, T⟩ := h
    refine ⟨(.ref Ra, i, LS X.K X.mg XN u) :: lv, .cons hi hln ⟨hg, hdb, .inl gR⟩ (fun a pn => (hsu a pn).ps) h1, fun c as C hl hC w' hw De σ H d q => ?_⟩
    refine ⟨as.contains rx, T c as hl C hC, fun hb => ⟨C, rfl, fun a ha => ?_⟩, fun hb => ?_⟩
    · rw [List.find?_cons_of_pos (by simpa using hb)] at hw
      cases hw
      exact q a ha
    · rw [List.find?_cons_of_neg (by simpa using hb)] at hw
      exact h2 c as C hl hC w' hw De σ H d q
theorem ns_try_hots (cs : List Str) (h : KeepX X.K X.mg x cs) (hs : X.stack = X.env :: X.outer) (hf : X.env.frame = some X.env.locals) (hN : X.N.Nodup) (hex : X.ex = [])
    (hb : ∀ (W : WX) (pn : List (Addr × Obj)) (xe : Value → Shared → Prop), L2.Takes (X.tr pn xe) W → NSsx (X.tr pn xe) W body mb) (hh : NHots X tb (h₀ :: hds) l) :
    NS X E (.Try body (h₀ :: hds) [] [] pos) (sTry mb (hmHots tb cs l)) := by
  obtain ⟨R, gR, T⟩ := h
  obtain ⟨lv, h1, h2⟩ := hh.ok
  refine ⟨ps_imp (ps_hots (tb := fun W => LSX X.K X.mg W mb) hs hf hN hex (fun W pn xe h _ => (hb W pn xe h).ps) h1) fun De s H q => ?_⟩
  obtain ⟨B, F, r, sl, C, hr, hsl, o⟩ := q
  refine ⟨B, F, r, sl, C, hr, hsl, ?_⟩
  unfold sTry at o
  cases hm0 : mb sl C with
  | ok p =>
    rw [hm0] at o
    exact o
  | no =>
    rw [hm0] at o
    exact o
  | ex e C' =>
    rw [hm0] at o
    have o : OutS X.K X.mg E B F r (hmHots tb cs l e sl C') De := o
    unfold hmHots at o
    split at o
    · rename_i hc1
      cases hl : tb.lookup e.cls with
      | none =>
        rw [hl] at o
        exact False.elim o
      | some as =>
        simp only [hl] at o
        cases hw : l.find? fun h => as.contains h.1 with
        | none =>
          rw [hw] at o
          exact False.elim o
        | some w =>
          simp only [hw] at o
          split at o
          · rename_i hc2
            intro F' r' H' a k1 k2 k3 k4
            obtain ⟨hn, te⟩ := T _ hc1 a k4
            have main : ∀ d, HeldOk X.K X.mg F' r' H' e a d → wHots X.K De lv (.ref a) d s H' := fun d hh => by
              refine h2 e.cls as a hl k4 w hw De s H' d fun a' ha' => ?_
              have sF : Same F' (upd F' a' (.ext (excφ a' a d))) := same_new (k3.freeF ha')
              have h1 := Sls.set ((hsl.mono k1 k2).mono sF (.refl _)) (held_rep k3 hh hn ha') w.2.1
              refine ⟨B, _, r', _, C', k3.freeze ha', h1, ?_⟩
              cases hu : w.2.2 (sl.set w.2.1 (some (heldD e))) C' with
              | no =>
                rw [hu] at o
                exact False.elim o
              | ex z Cz =>
                rw [hu] at o
                exact False.elim o
              | ok p =>
                obtain ⟨⟨fl, sl'⟩, C2⟩ := p
                rw [hu] at o
                have o : OutS X.K X.mg E B F r (.ok ((fl, sl'.set w.2.1 none), C2)) De := o
                intro F2 r2 H2 e1 e2 hr2
                have z := o F2 r2 H2 ((k1.trans sF).trans e1) (k2.trans e2) hr2
                cases fl with
                | nx => exact fun s2 hs2 => z _ (Sls.wipe hs2 [w.2.1])
                | rt d => exact fun v hv => z v hv
                | bk => exact fun s2 hs2 => z _ (Sls.wipe hs2 [w.2.1])
                | ct => exact fun s2 hs2 => z _ (Sls.wipe hs2 [w.2.1])
            cases hfl : e.fld with
            | none => exact main none ⟨k4, by rw [hfl]⟩
            | some p =>
              obtain ⟨f, dd⟩ := p
              intro dx v e1 e2
              exact main (some dx) ⟨k4, by rw [hfl]; exact ⟨dx, v, rfl, e1, e2⟩⟩
          · exact False.elim o
    · exact False.elim o
end
section
variable {sl : Sl} {C : Store} {QS : Fl → Sl → Store → Prop} {tb : List (Str × List Str)} {cs : List Str} {l : List (Str × Nat × MS)} {e : Exn} {as : List Str} {w : Str × Nat × MS}
theorem w_hmHots (hc : e.cls ∈ cs) (hl : tb.lookup e.cls = some as) (hw : (l.find? fun h => as.contains h.1) = some w) (hi : w.2.1 < sl.length) (h : WS (w.2.2 (sl.set w.2.1 (some (heldD e))) C) fun f sl' C' => QS f (sl'.set w.2.1 none) C') : WS (hmHots tb cs l e sl C) QS := by
  obtain ⟨f, sl', C', e1, q⟩ := h
  refine ⟨f, sl'.set w.2.1 none, C', ?_, q⟩
  unfold hmHots
  rw [if_pos hc]
  simp only [hl, hw]
  rw [if_pos hi, e1]
end
/-! a def out of a list of defs -/
inductive DoorsOk (X : Cx) (k n : Nat) : List Expr → List MF → Prop
  | nil : DoorsOk X k n [] []
  | cons {x : Str} {p : Pos} {es : List Expr} {mf : MF} {mfs : List MF} (h : Cal X.prog X.w X.K X.mg X.base x k n mf) (t : DoorsOk X k n es mfs) (hg : Gl X x := by rfl) (hdb : (x == ("__debug__" : Str)) = false := by decide) : DoorsOk X k n (.Name x p :: es) (mf :: mfs)
def DoorAt (X : Cx) (k n : Nat) (f : Addr) (mf : MF) : Prop := ∃ fd ps, FnG X.prog X.w X.K X.mg X.base k f fd ps (spN X.K X.mg n mf) ∧ PySem.W.keepIn X.K (.ref f) = true ∧ L2.Binds X.K fd ps []
section
variable {X : Cx} {W : WX} {k n : Nat} {es as : List Expr} {e i : Expr} {p1 p2 pos : Pos} {mfs : List MF} {mi : ME} {mas : MG (List D)}
theorem DoorsOk.pa (h : DoorsOk X k n es mfs) : ∃ (fs : List Addr) (t : TA), PA X es t ∧ (∀ σ H Q, Q (fs.map V.ref) H → t σ H Q) ∧ fs.length = mfs.length ∧ ∀ (j : Nat) (f : Addr) (mf : MF), fs[j]? = some f → mfs[j]? = some mf → DoorAt X k n f mf := by
  induction h with
  | nil => exact ⟨[], _, pa_nil, fun σ H Q q => q, rfl, fun j f mf h => nomatch h⟩
  | @cons x p es mf mfs h t hg hdb ih =>
    obtain ⟨fs, t, h1, h2, h3, h4⟩ := ih
    obtain ⟨f, fd, ps, F, hm, hk, hb⟩ := h
    refine ⟨f :: fs, _, pa_cons (pe_glob hg hm (v := .ref f) rfl hdb) h1, fun σ H Q q => h2 _ _ _ q, by rw [List.length_cons, List.length_cons, h3], fun j f' mf' hj hj2 => ?_⟩
    cases j with
    | zero =>
      cases hj
      cases hj2
      exact ⟨fd, ps, F, hk, hb⟩
    | succ j => exact h4 j f' mf' hj hj2
def mDoor (n : Nat) (mfs : List MF) (mi : ME) (mas : MG (List D)) : ME := fun sl C => if mfs.length ≤ sizeLine then (mi sl C).bind fun p => match p.1 with
  | .int j => if 0 ≤ j then match mfs[j.toNat]? with
    | some mf => mF n mf mas sl p.2
    | none => .no
    else .no
  | _ => .no
  else .no
theorem nex_door (h : DoorsOk X k n es mfs) (hr : Room k X.A) (hgd : X.A.guards = some []) (tk : L2.Takes X W) (hi : NE X XT i mi) (ha : NA X XT (e :: as) mas) (hs : PlainIx i := by first | (intro _ _; rfl) | exact .name)
    (he : starEach (e :: as) X.env = (false, eval e X.env) :: starEach as X.env := by rfl) (hpl : (backTo pos (starEach as X.env)).any (·.1) = false := by rfl) :
    NEx X W (.Call (.Subscript (.List es p1) i p2) (e :: as) [] pos) (mDoor n mfs mi mas) := by
  obtain ⟨fs, t, h1, h2, h3, h4⟩ := h.pa
  refine ⟨⟨fun pins s σ H Q I q => ?_⟩⟩
  obtain ⟨B, F0, r, sl, C, hr0, hsl, o⟩ := q
  unfold mDoor at o
  split at o
  case isFalse => exact False.elim o
  rename_i hlen
  show wpAny (model X.prog X.w) X.A (eval (.Subscript (.List es p1) i p2) X.env >>= fun f => callWith pos f [] (backTo pos (starEach (e :: as) X.env)) (backToKw pos (keywordEach [] X.env))) _ _ s
  refine wpAny_bind (thn ((pe_ix (ix_list (X := X)) (pe_lst h1 (pos := p1)) hi.pe hs).run pins s σ H (fun v H1 => ∃ f mf, v = .ref f ∧ DoorAt X k n f mf ∧ LX X.K X.mg W (mF n mf mas) σ H1 Q) I ?_) fun v s1 z => ?_)
  · refine h2 _ _ _ ⟨by rw [List.length_map, h3]; exact hlen, fun p hp => ?_⟩
    have hF := same_new (o := HO.lst (fs.map V.ref)) (hr0.freeF hp)
    refine ⟨B, _, r, sl, C, hr0.freeze (o := HO.lst (fs.map V.ref)) hp, hsl.mono hF (.refl _), Out.bindT (P := Rep X.K) (Out.mono o hF (.refl _)) fun y C2 F2 r2 H2 u e3 e4 hr2 hy o2 => ?_⟩
    simp only at o2
    split at o2
    · rename_i j
      split at o2
      · rename_i h0
        cases hm : mfs[j.toNat]? with
        | none =>
          rw [hm] at o2
          exact False.elim o2
        | some mf =>
          simp only [hm] at o2
          obtain ⟨jn, rfl⟩ := Int.eq_ofNat_of_zero_le h0
          have hj : jn < mfs.length := (List.getElem?_eq_some_iff.mp hm).1
          have hf : fs[jn]? = some fs[jn] := List.getElem?_eq_getElem (by omega)
          have hy : u = .int (jn : Int) := hy
          refine ⟨p, fs.map V.ref, (jn : Int), .ref fs[jn], rfl, hy, .inl (.inl (hr2.froz _ _ (e3 _ _ upd_same))), ?_, _, mf, rfl, h4 jn _ mf hf hm, ⟨B, F2, r2, sl, C2, hr2, (hsl.mono hF (.refl _)).mono e3 e4, o2⟩⟩
          refine L2.atI_nat ?_
          rw [List.getElem?_map, hf]
          rfl
      · exact False.elim o2
    · exact False.elim o2
  · obtain ⟨v0, H1, I1, rv, f, mf, rfl, ⟨fd, ps, F, hk, hb⟩, ⟨B1, F1, r1, sl1, C1, hr1, hs1, o1⟩⟩ := z
    cases rv
    refine PySem.W.callWith_K (h₀ := X.base) I1.ok.mod.kin hk (thn (ha.pa.run pos pins s1 σ H1 (fun vs H1 => spN X.K X.mg n mf vs H1 Q (wAt0 W σ)) I1 ⟨B1, F1, r1, sl1, C1, hr1, hs1, Out.bindT (P := Reps X.K) o1 fun xs C2 F2 r2 H2 vs e1 e2 hr2 hx o2 => ?_⟩) fun us s2 z => ?_) he hpl
    · simp only at o2
      split at o2
      · rename_i hl
        exact ⟨B1, F2, r2, C2, xs, hr2, hx, hl, o2⟩
      · exact False.elim o2
    · obtain ⟨vs, H2, I2, r2, q2⟩ := z
      exact ⟨I2.kIn, run_fnGS F hr hgd hb (passAt tk σ) I2 r2 q2⟩
end
section
variable {sl : Sl} {C : Store} {QD : D → Store → Prop} {n : Nat} {mfs : List MF} {mi : ME} {mas : MG (List D)}
theorem w_door (hl : mfs.length ≤ sizeLine := by decide) (h : W (mi sl C) fun d C1 => ∃ (j : Nat) (mf : MF), d = .int (j : Nat) ∧ mfs[j]? = some mf ∧ W (mF n mf mas sl C1) QD) : W (mDoor n mfs mi mas sl C) QD := by
  unfold mDoor
  rw [if_pos hl]
  refine W.bind (h.imp fun d C1 h => ?_)
  obtain ⟨j, mf, rfl, hm, h⟩ := h
  simp only
  rw [if_pos (by omega), show ((j : Nat) : Int).toNat = j from by omega, hm]
  exact h
end
end Nv

namespace Nv
open PySem PySem.Spec PyProof.Rows L2
/-! the text of data in which an empty dict may lie -/
mutual
inductive DpE (K : PySem.W.Frag) (H : Hp) : V → PyData → Prop
  | non : DpE K H .non .none
  | bl (b : Bool) : DpE K H (.bl b) (.bool b)
  | int (i : Int) : DpE K H (.int i) (.int i)
  | str (x : Str) : DpE K H (.str x) (.str x)
  | lst {a : Addr} {xs : List V} {ds : List PyData} (h : SqL K H a xs) (hs : DpEs K H xs ds) : DpE K H (.ref a) (.list ds)
  | tup {a : Addr} {xs : List V} {ds : List PyData} (h : SqT K H a xs) (hs : DpEs K H xs ds) : DpE K H (.ref a) (.tuple ds)
  | dct {a : Addr} (h : Rd H a (.dK [])) : DpE K H (.ref a) (.dict [])
inductive DpEs (K : PySem.W.Frag) (H : Hp) : List V → List PyData → Prop
  | nil : DpEs K H [] []
  | cons {v : V} {vs : List V} {d : PyData} {ds : List PyData} (h : DpE K H v d) (t : DpEs K H vs ds) : DpEs K H (v :: vs) (d :: ds)
end
section
variable {X : Cx} {pins : List (Addr × Obj)} {σ : L2.St} {H : Hp} {s : Shared}
/-- an object of an empty dict -/
theorem dct_raw (I : Inv X pins σ H s) {a : Addr} (hd : Rd H a (.dK [])) : (a == sysModules) = false ∧ ∃ (o : Obj) (es : Array DictEntry) (n : Nat), s.heap.get? a = some o ∧ o.cls = .type "dict" ∧ o.data = .dict es n ∧ es.toList = [] := by
  obtain ⟨z, hne, vs, rel, o, es, ep, e1, e2, e3, e4, e5, e6⟩ := dk_rd I.hok hd
  cases rel
  have hl : es.toList = [] := by
    generalize es.toList = l at e5
    cases e5
    rfl
  exact ⟨hne, o, es, ep, e1, e2.1, e3, hl⟩
mutual
theorem DpE.reads (I : Inv X pins σ H s) : ∀ (d : PyData) (v : V) (u : Value), DpE X.K H v d → RelV v u → ∃ as, Reads s.heap u d as
  | .none, _, _, h, r => by
    cases h
    cases r
    exact ⟨_, .none⟩
  | .bool b, _, _, h, r => by
    cases h
    cases r
    exact ⟨_, .bool b⟩
  | .int i, _, _, h, r => by
    cases h
    obtain ⟨t, rfl⟩ := r
    exact ⟨_, .int i t⟩
  | .str x, _, _, h, r => by
    cases h
    obtain ⟨t, rfl⟩ := r
    exact ⟨_, .str x t⟩
  | .list ds, _, _, h, r => by
    cases h with
    | lst hs ha =>
      cases r
      obtain ⟨its, rv, ⟨o, n, ho, hc, _, hd⟩, _⟩ := I.list hs
      obtain ⟨as, hr⟩ := DpEs.reads I ds _ its ha rv
      exact ⟨_, .list ho hc hd hr⟩
  | .tuple ds, _, _, h, r => by
    cases h with
    | tup hs ha =>
      cases r
      obtain ⟨its, rv, ⟨o, ho, hc, n, hd⟩, _⟩ := I.tuple hs
      obtain ⟨as, hr⟩ := DpEs.reads I ds _ its ha rv
      exact ⟨_, .tuple ho hc hd hr⟩
  | .dict kvs, _, _, h, r => by
    cases h with
    | @dct a hd =>
      cases r
      obtain ⟨_, o, es, n, e1, e2, e3, e4⟩ := dct_raw I hd
      exact ⟨_, .dict (kvs := []) e1 e2 e3 (by rw [e4]; exact .nil) (by rw [e4]; exact .nil)⟩
theorem DpEs.reads (I : Inv X pins σ H s) : ∀ (ds : List PyData) (vs : List V) (us : List Value), DpEs X.K H vs ds → Vals vs us → ∃ as, ReadsAll s.heap us ds as
  | [], _, _, h, r => by
    cases h
    cases r
    exact ⟨_, .nil⟩
  | d :: ds, _, _, h, r => by
    cases h with
    | cons h1 h2 =>
      cases r with
      | cons r1 r2 =>
        obtain ⟨as, q1⟩ := DpE.reads I d _ _ h1 r1
        obtain ⟨bs, q2⟩ := DpEs.reads I ds _ _ h2 r2
        exact ⟨_, .cons q1 q2⟩
end
mutual
theorem DpE.rk (I : Inv X pins σ H s) : ∀ (d : PyData) (v : V) (u : Value), DpE X.K H v d → RelV v u → d.showable = true → d.shown.length ≤ sizeLine → ∃ bs, ReadAtMost s.heap d.depth bs ∧ ReprK X.prog X.w bs s.heap d.depth u d.shown
  | .none, _, _, h, r, _, _ => by
    cases h
    cases r
    exact ⟨[], (fun _ z => nomatch z), .of_is ReprIs.none _ _ _⟩
  | .bool b, _, _, h, r, _, _ => by
    cases h
    cases r
    exact ⟨[], (fun _ z => nomatch z), .of_is (ReprIs.bool b) _ _ _⟩
  | .int i, _, _, h, r, hs, _ => by
    cases h
    obtain ⟨t, rfl⟩ := r
    exact ⟨[], (fun _ z => nomatch z), .of_is (ReprIs.int t (of_decide_eq_true hs)) _ _ _⟩
  | .str x, _, _, h, r, _, hz => by
    cases h
    obtain ⟨t, rfl⟩ := r
    exact ⟨[], (fun _ z => nomatch z), .of_is (ReprIs.str x t hz) _ _ _⟩
  | .list ds, _, _, h, r, hs, hz => by
    cases h with
    | @lst a ys ds hq ha =>
      cases r
      obtain ⟨its, rv, ⟨o, n, ho, hc, _, hd⟩, _⟩ := I.list hq
      have hz' : (listText (PyData.shownAll ds)).length ≤ sizeLine := hz
      obtain ⟨as, hr⟩ := DpEs.reads I ds _ its ha rv
      obtain ⟨bs, hb, hk⟩ := DpEs.rk I ds _ its ha rv hs fun t ht => Nat.le_trans (listText_mem_le ht) hz'
      have rd : Reads s.heap (.ref a) (.list ds) _ := .list ho hc hd hr
      have hna : a ∉ bs := not_mem_of_deeper rd (Nat.lt_succ_self _) hb
      refine ⟨a :: bs, ReadAtMost.cons rd (Nat.le_succ _) hb, ?_⟩
      show ReprK X.prog X.w (a :: bs) s.heap (PyData.depthAll ds + 1) (.ref a) (listText (PyData.shownAll ds))
      cases its with
      | nil =>
        cases hr
        exact ReprK.listEmpty ho hc hd
      | cons x l => exact ReprK.list ho hc hd hna (by simpa using hk.length_eq) fun i y e => hk.item i y (by simpa using e)
  | .tuple ds, _, _, h, r, hs, hz => by
    cases h with
    | @tup a ys ds hq ha =>
      cases r
      obtain ⟨its, rv, ⟨o, ho, hc, n, hd⟩, _⟩ := I.tuple hq
      have hz' : (tupleText (PyData.shownAll ds)).length ≤ sizeLine := hz
      obtain ⟨as, hr⟩ := DpEs.reads I ds _ its ha rv
      obtain ⟨bs, hb, hk⟩ := DpEs.rk I ds _ its ha rv hs fun t ht => Nat.le_trans (tupleText_mem_le ht) hz'
      have rd : Reads s.heap (.ref a) (.tuple ds) _ := .tuple ho hc hd hr
      have hna : a ∉ bs := not_mem_of_deeper rd (Nat.lt_succ_self _) hb
      exact ⟨a :: bs, ReadAtMost.cons rd (Nat.le_succ _) hb, ReprK.tuple ho hc hd hna hk⟩
  | .dict kvs, _, _, h, r, hs, hz => by
    cases h with
    | @dct a hq =>
      cases r
      obtain ⟨hne, o, es, n, e1, e2, e3, e4⟩ := dct_raw I hq
      have rd : Reads s.heap (.ref a) (.dict []) _ := .dict (kvs := []) e1 e2 e3 (by rw [e4]; exact .nil) (by rw [e4]; exact .nil)
      exact ⟨[a], ReadAtMost.cons (bs := []) (n := 0) rd (Nat.zero_le _) (fun _ z => nomatch z), ReprK.dict e1 e2 e3 hne (fun z => nomatch z) (by rw [e4]; exact .nil)⟩
theorem DpEs.rk (I : Inv X pins σ H s) : ∀ (ds : List PyData) (vs : List V) (us : List Value), DpEs X.K H vs ds → Vals vs us → PyData.showableAll ds = true → (∀ t ∈ PyData.shownAll ds, t.length ≤ sizeLine) → ∃ bs, ReadAtMost s.heap (PyData.depthAll ds) bs ∧ ReprAllK X.prog X.w bs s.heap (PyData.depthAll ds) us (PyData.shownAll ds)
  | [], _, _, h, r, _, _ => by
    cases h
    cases r
    exact ⟨[], (fun _ z => nomatch z), .nil⟩
  | d :: ds, _, _, h, r, hs, hz => by
    cases h with
    | cons h1 h2 =>
      cases r with
      | cons r1 r2 =>
        have hs : (d.showable && PyData.showableAll ds) = true := hs
        rw [Bool.and_eq_true] at hs
        obtain ⟨b1, q1, k1⟩ := DpE.rk I d _ _ h1 r1 hs.1 (hz _ List.mem_cons_self)
        obtain ⟨b2, q2, k2⟩ := DpEs.rk I ds _ _ h2 r2 hs.2 fun t ht => hz t (List.mem_cons_of_mem _ ht)
        have m1 : d.depth ≤ PyData.depthAll (d :: ds) := Nat.le_max_left _ _
        have m2 : PyData.depthAll ds ≤ PyData.depthAll (d :: ds) := Nat.le_max_right _ _
        exact ⟨b1 ++ b2, (q1.mono m1).append (q2.mono m2), .cons ((k1.more fun b hb => List.mem_append_left _ hb).level_le m1) (k2.more_le (fun b hb => List.mem_append_right _ hb) m2)⟩
end
end
def rReprE (K : PySem.W.Frag) : List V → Hp → VK → Prop := fun xs H Q => ∃ x d, xs = [x] ∧ DpE K H x d ∧ d.showable = true ∧ d.depth ≤ 64 ∧ d.shown.length ≤ sizeLine ∧ Q (.str d.shown) H
section
variable {X : Cx}
theorem call_reprE {k : Nat} (hr : Room k X.A) (hgd : X.A.guards = some []) : CallR X (.builtin "repr") (rReprE X.K) := by
  intro pins s σ H xs us Q I rr h
  obtain ⟨x, d, rfl, hd, hs, hdp, hz, q⟩ := h
  obtain ⟨u, rfl, rx⟩ := vals1 rr
  have hu := hr.un
  cases hd with
  | non => cases rx; exact PySem.P.repr_of_none ⟨.str _, H, I.tok _, ⟨_, rfl⟩, q⟩
  | bl b => cases rx; exact PySem.P.repr_of_bool ⟨.str _, H, I.tok _, ⟨_, rfl⟩, q⟩
  | int i =>
    obtain ⟨t, rfl⟩ := rx
    exact PySem.P.repr_of_int (of_decide_eq_true hs) ⟨.str _, H, I.tok _, ⟨_, rfl⟩, q⟩
  | str y =>
    obtain ⟨t, rfl⟩ := rx
    exact PySem.P.repr_of_str ⟨.str _, H, I.tok _, ⟨_, rfl⟩, q⟩ hz
  | @lst a ys ds h1 h2 =>
    cases rx
    obtain ⟨its, rv, ⟨o, n, ho, hc, _, hdat⟩, _⟩ := I.list h1
    obtain ⟨as, hr2⟩ := DpEs.reads I ds _ its h2 rv
    have hz' : (listText (PyData.shownAll ds)).length ≤ sizeLine := hz
    have hdp : PyData.depthAll ds + 1 ≤ 64 := hdp
    obtain ⟨bs, hb, hk⟩ := DpEs.rk I ds _ its h2 rv hs fun t ht => Nat.le_trans (listText_mem_le ht) hz'
    have rd : Reads s.heap (.ref a) (.list ds) _ := .list ho hc hdat hr2
    have hna : a ∉ bs := not_mem_of_deeper rd (Nat.lt_succ_self _) hb
    refine call_repr_slot (by omega) ⟨o, ho, hc⟩ F.slot_list_repr.toG ?_
    cases its with
    | nil =>
      cases hr2
      exact call_list_repr_empty ⟨o, ho, hc⟩ ho hdat ⟨_, _, rfl, .str _, H, I.tok _, ⟨_, rfl⟩, q⟩
    | cons x l =>
      exact call_list_reprK ho hc hdat hna (by simpa using hk.length_eq) (fun i y e => hk.item i y (by simpa using e)) hgd (fun b _ => Clear.nil b) (by show X.A.units + 1 + _ < cLine; omega) (fun _ _ z => z) (fun h' u tk hk => ⟨_, _, rfl, .str _, H, I.kept hk, ⟨_, rfl⟩, q⟩) hz'
  | @tup a ys ds h1 h2 =>
    cases rx
    obtain ⟨its, rv, ⟨o, ho, hc, n, hdat⟩, _⟩ := I.tuple h1
    obtain ⟨as, hr2⟩ := DpEs.reads I ds _ its h2 rv
    have hz' : (tupleText (PyData.shownAll ds)).length ≤ sizeLine := hz
    have hdp : PyData.depthAll ds + 1 ≤ 64 := hdp
    obtain ⟨bs, hb, hk⟩ := DpEs.rk I ds _ its h2 rv hs fun t ht => Nat.le_trans (tupleText_mem_le ht) hz'
    have rd : Reads s.heap (.ref a) (.tuple ds) _ := .tuple ho hc hdat hr2
    have hna : a ∉ bs := not_mem_of_deeper rd (Nat.lt_succ_self _) hb
    refine call_repr_slot (by omega) ⟨o, ho, hc⟩ F.slot_tuple_repr ?_
    exact call_tuple_reprK ho hc hdat hna hk hgd (fun b _ => Clear.nil b) (by show X.A.units + 1 + _ < cLine; omega) (fun _ _ z => z) (fun h' u tk hk => ⟨_, _, rfl, .str _, H, I.kept hk, ⟨_, rfl⟩, q⟩) hz'
  | @dct a h1 =>
    cases rx
    obtain ⟨hne, o, es, n, e1, e2, e3, e4⟩ := dct_raw I h1
    refine call_repr_slot (by omega) ⟨o, e1, e2⟩ F.slot_dict_repr ?_
    exact call_dict_reprK (as := []) (d := 0) (ps := []) e1 e2 e3 hne (fun z => nomatch z) (by rw [e4]; exact .nil) hgd (fun b _ => Clear.nil b) (by show X.A.units + 1 + _ < cLine; omega) (fun _ _ z => z) (fun h' u tk hk => ⟨_, _, rfl, .str _, H, I.kept hk, ⟨_, rfl⟩, q⟩) hz
end
mutual
def toPE0 : D → Option PyData
  | .non => some .none
  | .bl b => some (.bool b)
  | .int i => some (.int i)
  | .str x => some (.str x)
  | .lst ds => (toPEs0 ds).map .list
  | .tup ds => (toPEs0 ds).map .tuple
  | .cell _ => none
  | .edct => some (.dict [])
  | .exc _ _ _ => none
  | .fn _ => none
def toPEs0 : List D → Option (List PyData)
  | [] => some []
  | d :: ds => (toPE0 d).bind fun p => (toPEs0 ds).map (p :: ·)
end
mutual
def toPE (C : Store) : D → Option PyData
  | .non => some .none
  | .bl b => some (.bool b)
  | .int i => some (.int i)
  | .str x => some (.str x)
  | .lst ds => (toPEs C ds).map .list
  | .tup ds => (toPEs C ds).map .tuple
  | .cell i => (lstAt C i).bind fun ds => (toPEs0 ds).map .list
  | .edct => some (.dict [])
  | .exc _ _ _ => none
  | .fn _ => none
def toPEs (C : Store) : List D → Option (List PyData)
  | [] => some []
  | d :: ds => (toPE C d).bind fun p => (toPEs C ds).map (p :: ·)
end
section
variable {K : PySem.W.Frag} {mg : Str → Option Value} {E : XK} {B F H : Hp} {r : List Addr} {C : Store}
theorem bind_map_some {A B : Type} {o : Option A} {q : Option (List B)} {f : A → B} {ps : List B} (h : (o.bind fun p => q.map (f p :: ·)) = some ps) : ∃ p l, o = some p ∧ q = some l ∧ ps = f p :: l := by
  cases o with
  | none => cases h
  | some p =>
    obtain ⟨l, e1, e2⟩ := map_some (show q.map (f p :: ·) = some ps from h)
    exact ⟨p, l, rfl, e1, e2.symm⟩
mutual
theorem toPE0_ok (hr : Rel K B F r H C) : ∀ {d : D} {v : V} {p : PyData}, Rep K F r d v → toPE0 d = some p → DpE K H v p
  | .non, _, _, h, e => by rw [show _ = V.non from h, ← Option.some.inj e]; exact .non
  | .bl b, _, _, h, e => by rw [show _ = V.bl b from h, ← Option.some.inj e]; exact .bl b
  | .int b, _, _, h, e => by rw [show _ = V.int b from h, ← Option.some.inj e]; exact .int b
  | .str b, _, _, h, e => by rw [show _ = V.str b from h, ← Option.some.inj e]; exact .str b
  | .lst ds, _, _, h, e => by
    obtain ⟨a, vs, rfl, h1, h2⟩ := h
    obtain ⟨ps, e1, e2⟩ := map_some (show (toPEs0 ds).map PyData.list = some _ from e)
    subst e2
    exact .lst (Same.seq hr.froz h1) (toPEs0_ok hr h2 e1)
  | .tup ds, _, _, h, e => by
    obtain ⟨a, vs, rfl, h1, h2⟩ := h
    obtain ⟨ps, e1, e2⟩ := map_some (show (toPEs0 ds).map PyData.tuple = some _ from e)
    subst e2
    exact .tup (Same.tup hr.froz h1) (toPEs0_ok hr h2 e1)
  | .cell i, _, _, h, e => nomatch (show (none : Option PyData) = some _ from e)
  | .edct, _, _, h, e => by
    obtain ⟨a, rfl, h1⟩ := h
    rw [← Option.some.inj e]
    exact .dct (.inl (hr.froz a _ h1))
  | .exc _ _ _, _, _, h, e => nomatch (show (none : Option PyData) = some _ from e)
  | .fn _, _, _, h, e => nomatch (show (none : Option PyData) = some _ from e)
theorem toPEs0_ok (hr : Rel K B F r H C) : ∀ {ds : List D} {vs : List V} {ps : List PyData}, Reps K F r ds vs → toPEs0 ds = some ps → DpEs K H vs ps
  | [], _, _, h, e => by rw [show _ = [] from h, ← Option.some.inj e]; exact .nil
  | d :: ds, _, _, h, e => by
    obtain ⟨v, w, rfl, h1, h2⟩ := h
    obtain ⟨p, ps, e1, e2, rfl⟩ := bind_map_some (f := id) (show ((toPE0 d).bind fun p => (toPEs0 ds).map (p :: ·)) = some _ from e)
    exact .cons (toPE0_ok hr h1 e1) (toPEs0_ok hr h2 e2)
end
mutual
theorem toPE_ok (hr : Rel K B F r H C) : ∀ {d : D} {v : V} {p : PyData}, Rep K F r d v → toPE C d = some p → DpE K H v p
  | .non, _, _, h, e => by rw [show _ = V.non from h, ← Option.some.inj e]; exact .non
  | .bl b, _, _, h, e => by rw [show _ = V.bl b from h, ← Option.some.inj e]; exact .bl b
  | .int b, _, _, h, e => by rw [show _ = V.int b from h, ← Option.some.inj e]; exact .int b
  | .str b, _, _, h, e => by rw [show _ = V.str b from h, ← Option.some.inj e]; exact .str b
  | .lst ds, _, _, h, e => by
    obtain ⟨a, vs, rfl, h1, h2⟩ := h
    obtain ⟨ps, e1, e2⟩ := map_some (show (toPEs C ds).map PyData.list = some _ from e)
    subst e2
    exact .lst (Same.seq hr.froz h1) (toPEs_ok hr h2 e1)
  | .tup ds, _, _, h, e => by
    obtain ⟨a, vs, rfl, h1, h2⟩ := h
    obtain ⟨ps, e1, e2⟩ := map_some (show (toPEs C ds).map PyData.tuple = some _ from e)
    subst e2
    exact .tup (Same.tup hr.froz h1) (toPEs_ok hr h2 e1)
  | .cell i, _, _, h, e => by
    have e : (lstAt C i).bind (fun ds => (toPEs0 ds).map PyData.list) = some _ := e
    cases q : lstAt C i with
    | none => rw [q] at e; cases e
    | some ds =>
      rw [q] at e
      obtain ⟨ps, e1, e2⟩ := map_some (show (toPEs0 ds).map PyData.list = some _ from e)
      subst e2
      obtain ⟨a, vs, rfl, _, h3, h4⟩ := lstAt_ok hr h q
      exact .lst h3 (toPEs0_ok hr h4 e1)
  | .edct, _, _, h, e => by
    obtain ⟨a, rfl, h1⟩ := h
    rw [← Option.some.inj e]
    exact .dct (.inl (hr.froz a _ h1))
  | .exc _ _ _, _, _, h, e => nomatch (show (none : Option PyData) = some _ from e)
  | .fn _, _, _, h, e => nomatch (show (none : Option PyData) = some _ from e)
theorem toPEs_ok (hr : Rel K B F r H C) : ∀ {ds : List D} {vs : List V} {ps : List PyData}, Reps K F r ds vs → toPEs C ds = some ps → DpEs K H vs ps
  | [], _, _, h, e => by rw [show _ = [] from h, ← Option.some.inj e]; exact .nil
  | d :: ds, _, _, h, e => by
    obtain ⟨v, w, rfl, h1, h2⟩ := h
    obtain ⟨p, ps, e1, e2, rfl⟩ := bind_map_some (f := id) (show ((toPE C d).bind fun p => (toPEs C ds).map (p :: ·)) = some _ from e)
    exact .cons (toPE_ok hr h1 e1) (toPEs_ok hr h2 e2)
end
def gReprE (x : D) (C : Store) : RE := match toPE C x with
  | some p => if p.showable = true ∧ p.depth ≤ 64 ∧ p.shown.length ≤ sizeLine then .ok (.str p.shown, C) else .no
  | none => .no
theorem reprEN : CallN K mg E (rReprE K) (on1 gReprE) := on1N fun B F r H C x v Q hr hx o => by
  unfold gReprE at o
  split at o
  · rename_i p e
    split at o
    · rename_i h
      exact ⟨v, p, rfl, toPE_ok hr hx e, h.1, h.2.1, h.2.2, out_ok (d := .str p.shown) hr rfl o⟩
    · exact False.elim o
  · exact False.elim o
end
/-! what can be shown, whatever the store is; w: its weight, n: its depth -/
structure ShE (x : D) (w n : Nat) (p : PyData) : Prop where
  to : ∀ C, toPE C x = some p
  sh : p.showable = true
  lf : p.leavesShort 33 = true
  de : p.depth ≤ n
  we : p.weight ≤ w
def Sho (x : D) (w n : Nat) : Prop := ∃ p, ShE x w n p
section
variable {C : Store} {QD : D → Store → Prop} {x : D} {w n : Nat} {p : PyData}
theorem w_shE (h : ShE x w n p) (hw : w ≤ 400000) (hd : n ≤ 64) (q : QD (.str p.shown) C) : W (on1 gReprE [x] C) QD := by
  refine W.of (a := .str p.shown) (C := C) ?_ q
  show gReprE x C = _
  unfold gReprE
  simp only [h.to C]
  have h3 := PyData.shown_le 33 (by decide) p h.lf
  have h4 : (33 + 2) * p.weight ≤ 35 * 400000 := Nat.mul_le_mul (by decide) (Nat.le_trans h.we hw)
  rw [if_pos ⟨h.sh, Nat.le_trans h.de hd, by rw [sizeLine_eq]; omega⟩]
theorem Sho.mono {w' n' : Nat} (h : Sho x w n) (hw : w ≤ w') (hn : n ≤ n') : Sho x w' n' := by
  obtain ⟨p, h⟩ := h
  exact ⟨p, h.to, h.sh, h.lf, Nat.le_trans h.de hn, Nat.le_trans h.we hw⟩
theorem Sho.non : Sho .non 0 0 := ⟨.none, fun _ => rfl, rfl, rfl, Nat.le_refl _, Nat.le_refl _⟩
theorem Sho.bl (b : Bool) : Sho (.bl b) 0 0 := ⟨.bool b, fun _ => rfl, rfl, rfl, Nat.le_refl _, Nat.le_refl _⟩
theorem Sho.edct : Sho .edct 0 1 := ⟨.dict [], fun _ => rfl, rfl, rfl, by decide, Nat.le_refl _⟩
theorem Sho.int {i : Int} (h : i.natAbs < 10 ^ 32) : Sho (.int i) 108 0 := by
  have hl : i.natAbs.log2 < 107 := by
    by_cases h0 : i.natAbs = 0
    · rw [h0]; decide
    · rw [Nat.log2_lt h0]
      exact Nat.lt_trans h (by decide)
  refine ⟨.int i, fun _ => rfl, ?_, ?_, Nat.le_refl _, ?_⟩
  · show decide (i.natAbs.log2 < 1920) = true
    exact decide_eq_true (by omega)
  · show decide ((PyData.shown (.int i)).length ≤ 33) = true
    refine decide_eq_true ?_
    have e := int_text_length_le10 (k := 32) (by decide) h
    show (Str.ofString (toString i)).length ≤ 33
    rw [PySem.ofString_length]
    exact e
  · show (if i == 0 then 0 else i.natAbs.log2 + 1) ≤ 108
    split <;> omega
theorem Sho.str {y : Str} (h : y.cps.size ≤ 100 := by decide +kernel) (hc : (y.cps.toList.all fun c => decide (c < 16 ^ 8)) = true := by decide +kernel) : Sho (.str y) 100 0 := ⟨.str y, fun _ => rfl, rfl, hc, Nat.le_refl _, h⟩
theorem sho_all : ∀ {xs : List D}, (∀ x ∈ xs, Sho x w n) → ∃ ps, (∀ C, toPEs C xs = some ps) ∧ PyData.showableAll ps = true ∧ PyData.leavesShortAll 33 ps = true ∧ PyData.depthAll ps ≤ n ∧ PyData.weightAll ps ≤ (w + 1) * xs.length
  | [], _ => ⟨[], fun _ => rfl, rfl, rfl, Nat.zero_le _, Nat.zero_le _⟩
  | x :: xs, h => by
    obtain ⟨p, hp⟩ := h x List.mem_cons_self
    obtain ⟨ps, h1, h2, h3, h4, h5⟩ := sho_all fun y hy => h y (List.mem_cons_of_mem x hy)
    refine ⟨p :: ps, fun C => ?_, ?_, ?_, ?_, ?_⟩
    · show (toPE C x).bind (fun p => (toPEs C xs).map (p :: ·)) = _
      rw [hp.to C, h1 C]
      rfl
    · show (p.showable && PyData.showableAll ps) = true
      rw [hp.sh, h2]
      rfl
    · show (p.leavesShort 33 && PyData.leavesShortAll 33 ps) = true
      rw [hp.lf, h3]
      rfl
    · exact Nat.max_le.mpr ⟨hp.de, h4⟩
    · show p.weight + 1 + PyData.weightAll ps ≤ (w + 1) * (xs.length + 1)
      have := hp.we
      rw [Nat.mul_succ]
      omega
theorem Sho.lst {xs : List D} (h : ∀ x ∈ xs, Sho x w n) : Sho (.lst xs) ((w + 1) * xs.length) (n + 1) := by
  obtain ⟨ps, h1, h2, h3, h4, h5⟩ := sho_all h
  exact ⟨.list ps, fun C => by show (toPEs C xs).map PyData.list = _; rw [h1]; rfl, h2, h3, Nat.succ_le_succ h4, h5⟩
theorem Sho.tup {xs : List D} (h : ∀ x ∈ xs, Sho x w n) : Sho (.tup xs) ((w + 1) * xs.length) (n + 1) := by
  obtain ⟨ps, h1, h2, h3, h4, h5⟩ := sho_all h
  exact ⟨.tuple ps, fun C => by show (toPEs C xs).map PyData.tuple = _; rw [h1]; rfl, h2, h3, Nat.succ_le_succ h4, h5⟩
end
end Nv

namespace Nv
open PySem PySem.Spec PyProof.Rows L2
/-! l.count(True) of truths, and where the first one is -/
section
variable {K : PySem.W.Frag} {mg : Str → Option Value} {E : XK} {B F H : Hp} {r : List Addr} {C : Store} {X : Cx}
def rCountB (K : PySem.W.Frag) : V → List V → Hp → VK → Prop := fun x xs H Q => ∃ (a : Addr) (ns : List Bool) (t : Bool), x = .ref a ∧ xs = [.bl t] ∧ SqL K H a (ns.map V.bl) ∧ Q (.int ((ns.countP fun y => y == t : Nat) : Int)) H
theorem plain_bls : ∀ l : List Bool, PyData.plainAll (l.map PyData.bool) = true
  | [] => rfl
  | x :: l => by
    show (true && PyData.plainAll (l.map PyData.bool)) = true
    rw [plain_bls l]
    rfl
theorem depth_bls0 : ∀ l : List Bool, PyData.depthAll (l.map PyData.bool) = 0
  | [] => rfl
  | x :: l => by
    show max 0 (PyData.depthAll (l.map PyData.bool)) = 0
    rw [depth_bls0 l]
    rfl
theorem dpAll_bls {H : Hp} : ∀ l : List Bool, DpAll K H (l.map V.bl) (l.map PyData.bool)
  | [] => .nil
  | x :: l => .cons (.bl x) (dpAll_bls l)
theorem mt_countB (hu0 : X.A.units + 64 < cLine) : MtR X "list.count" (rCountB X.K) := by
  have hu : X.A.units + 1 < cLine := by omega
  intro pins s σ H x xs v us Q I rx rxs h
  obtain ⟨a, ns, i, rfl, rfl, hs, q⟩ := h
  cases rx
  cases rxs with
  | cons ry rt =>
    rename_i uy ut
    cases rt
    have ry : uy = Value.bool i := ry
    subst ry
    obtain ⟨its, rv, p, hz⟩ := I.list hs
    obtain ⟨as, h4⟩ := Dp.readsAll I (ns.map PyData.bool) (ns.map V.bl) its (dpAll_bls ns) rv
    refine PySem.SeqAt.count_list_data (as := as) (bs := []) (d := .bool i) p.isList (vs := its.toArray) (show ReadsAll s.heap its.toArray.toList _ as from h4) (.bool i) (plain_bls ns) rfl ?_ ?_
    · rw [depth_bls0]
      exact hu
    · refine ⟨.int _, H, I.tok _, ⟨_, rfl⟩, ?_⟩
      rw [List.countP_map]
      exact q
def gCountB (x : D) (ds : List D) (C : Store) : RE := match (lstOf C x).bind blsOf, ds with
  | some ns, [.bl i] => .ok (.int ((ns.countP fun y => y == i : Nat) : Int), C)
  | _, _ => .no
theorem Reps.blsC : ∀ {ns : List Bool} {vs : List V}, Reps K F r (ns.map D.bl) vs → vs = ns.map V.bl
  | [], _, h => h
  | n :: ns, _, h => by
    obtain ⟨v, w, rfl, h1, h2⟩ := h
    rw [Reps.blsC h2, show v = V.bl n from h1]
    rfl
theorem countBN : MtN K mg E (rCountB K) gCountB := by
  intro B F r H C x v ds vs Q hr hx hd o
  unfold gCountB at o
  split at o
  · rename_i ns i e
    obtain ⟨zs, e1, e2⟩ := bind_some e
    obtain ⟨a, us, rfl, h2, h3⟩ := lstOf_ok hr hx e1
    rw [blsOf_eq e2] at h3
    rw [h3.blsC] at h2
    obtain ⟨w, ws, rfl, h4, h5⟩ := hd
    cases (show ws = [] from h5)
    exact ⟨a, ns, i, rfl, by rw [show w = V.bl i from h4], h2, out_ok (d := .int _) hr rfl o⟩
  · exact False.elim o
theorem w_countB {x : D} {l : List Bool} {i : Bool} {QD : D → Store → Prop} (hx : lstOf C x = some (l.map D.bl)) (h : QD (.int ((l.countP fun y => y == i : Nat) : Int)) C) : W (gCountB x [.bl i] C) QD := by
  refine W.of (a := .int ((l.countP fun y => y == i : Nat) : Int)) (C := C) ?_ h
  unfold gCountB
  rw [hx, Option.bind_some, blsOf_map]
theorem idxF_bl {b : Bool} : ∀ {l : List Bool}, b ∈ l → idxF (.bl b) (l.map D.bl) = some (l.idxOf b)
  | [], h => nomatch h
  | a :: l, h => by
    rw [List.map_cons]
    unfold idxF
    rw [List.idxOf_cons]
    by_cases ha : a = b
    · have : eqF (.bl a) (.bl b) = true := by show (a == b) = true; simpa using ha
      rw [if_pos this, ha]
      simp
    · have h1 : ¬ eqF (.bl a) (.bl b) = true := by show ¬ (a == b) = true; simpa using ha
      have h2 : (a == b) = false := by simpa using ha
      rcases List.mem_cons.mp h with e | h
      · exact absurd e.symm ha
      · rw [if_neg h1, idxF_bl h, h2]
        rfl
theorem w_indexB {x : D} {b : Bool} {l : List Bool} {QD : D → Store → Prop} (hx : lstOf C x = some (l.map D.bl)) (h : b ∈ l) (q : QD (.int (l.idxOf b : Nat)) C) : W (gIndex x [.bl b] C) QD := by
  refine W.of (a := .int (l.idxOf b : Nat)) (C := C) ?_ q
  have hf : (l.map D.bl).all flatD = true := by simp [flatD]
  unfold gIndex
  rw [hx]
  show (if (flatD (.bl b) && (l.map D.bl).all flatD) = true then (match idxF (.bl b) (l.map D.bl) with
    | some j => R.ok (D.int (j : Nat), C)
    | none => .no) else .no) = _
  rw [hf, idxF_bl h]
  rfl
end
end Nv


namespace Tk
open PySem PySem.Spec PyProof.Rows L2 Nv
def topS (i : Nat) : Stmt := PySem.Challenge.pw_takeback_k56_next_deeds_refused.main.body.getD i (.Pass ⟨0, 0, 0, 0⟩)
def bltNames : List Str := ["all", "bool", "enumerate", "int", "isinstance", "len", "list", "max", "min", "range", "repr", "str", "tuple"]
def Blts (mg : Str → Option Value) : Prop := ∀ x ∈ bltNames, mg x = none
theorem b_all {mg : Str → Option Value} (h : Blts mg) : mg "all" = none := h _ (by decide +kernel)
theorem b_bool {mg : Str → Option Value} (h : Blts mg) : mg "bool" = none := h _ (by decide +kernel)
theorem b_enumerate {mg : Str → Option Value} (h : Blts mg) : mg "enumerate" = none := h _ (by decide +kernel)
theorem b_int {mg : Str → Option Value} (h : Blts mg) : mg "int" = none := h _ (by decide +kernel)
theorem b_isinstance {mg : Str → Option Value} (h : Blts mg) : mg "isinstance" = none := h _ (by decide +kernel)
theorem b_len {mg : Str → Option Value} (h : Blts mg) : mg "len" = none := h _ (by decide +kernel)
theorem b_list {mg : Str → Option Value} (h : Blts mg) : mg "list" = none := h _ (by decide +kernel)
theorem b_max {mg : Str → Option Value} (h : Blts mg) : mg "max" = none := h _ (by decide +kernel)
theorem b_min {mg : Str → Option Value} (h : Blts mg) : mg "min" = none := h _ (by decide +kernel)
theorem b_range {mg : Str → Option Value} (h : Blts mg) : mg "range" = none := h _ (by decide +kernel)
theorem b_repr {mg : Str → Option Value} (h : Blts mg) : mg "repr" = none := h _ (by decide +kernel)
theorem b_str {mg : Str → Option Value} (h : Blts mg) : mg "str" = none := h _ (by decide +kernel)
theorem b_tuple {mg : Str → Option Value} (h : Blts mg) : mg "tuple" = none := h _ (by decide +kernel)
abbrev k_COME_later : D := .str "come"
abbrev k_FORGOTTEN_mending : D := .str "forgotten"
abbrev k_FORGOTTEN_stands : D := .str "forgotten"
abbrev k_GO_deeds : D := .str "go"
abbrev k_GO_later : D := .str "go"
abbrev k_HELD_mending : D := .str "held"
abbrev k_HELD_stands : D := .str "held"
abbrev k_LEAST_DANCER : D := .int 1
abbrev k_LEFT_deeds : D := .str "left"
abbrev k_LEFT_mending : D := .str "left"
abbrev k_LEFT_stands : D := .str "left"
abbrev k_RIGHT_deeds : D := .str "right"
abbrev k_RIGHT_stands : D := .str "right"
abbrev k_WORDS : D := .tup [(.str "go"), (.str "come")]
def Globs (mg : Str → Option Value) (K : PySem.W.Frag) : Prop := GlobC mg K "COME_later" k_COME_later ∧ GlobC mg K "FORGOTTEN_mending" k_FORGOTTEN_mending ∧ GlobC mg K "FORGOTTEN_stands" k_FORGOTTEN_stands ∧ GlobC mg K "GO_deeds" k_GO_deeds ∧ GlobC mg K "GO_later" k_GO_later ∧ GlobC mg K "HELD_mending" k_HELD_mending ∧ GlobC mg K "HELD_stands" k_HELD_stands ∧ GlobC mg K "LEAST_DANCER" k_LEAST_DANCER ∧ GlobC mg K "LEFT_deeds" k_LEFT_deeds ∧ GlobC mg K "LEFT_mending" k_LEFT_mending ∧ GlobC mg K "LEFT_stands" k_LEFT_stands ∧ GlobC mg K "RIGHT_deeds" k_RIGHT_deeds ∧ GlobC mg K "RIGHT_stands" k_RIGHT_stands ∧ GlobC mg K "WORDS" k_WORDS
theorem g_COME_later {mg : Str → Option Value} {K : PySem.W.Frag} (h : Globs mg K) : GlobC mg K "COME_later" k_COME_later := h.1
theorem g_FORGOTTEN_mending {mg : Str → Option Value} {K : PySem.W.Frag} (h : Globs mg K) : GlobC mg K "FORGOTTEN_mending" k_FORGOTTEN_mending := h.2.1
theorem g_FORGOTTEN_stands {mg : Str → Option Value} {K : PySem.W.Frag} (h : Globs mg K) : GlobC mg K "FORGOTTEN_stands" k_FORGOTTEN_stands := h.2.2.1
theorem g_GO_deeds {mg : Str → Option Value} {K : PySem.W.Frag} (h : Globs mg K) : GlobC mg K "GO_deeds" k_GO_deeds := h.2.2.2.1
theorem g_GO_later {mg : Str → Option Value} {K : PySem.W.Frag} (h : Globs mg K) : GlobC mg K "GO_later" k_GO_later := h.2.2.2.2.1
theorem g_HELD_mending {mg : Str → Option Value} {K : PySem.W.Frag} (h : Globs mg K) : GlobC mg K "HELD_mending" k_HELD_mending := h.2.2.2.2.2.1
theorem g_HELD_stands {mg : Str → Option Value} {K : PySem.W.Frag} (h : Globs mg K) : GlobC mg K "HELD_stands" k_HELD_stands := h.2.2.2.2.2.2.1
theorem g_LEAST_DANCER {mg : Str → Option Value} {K : PySem.W.Frag} (h : Globs mg K) : GlobC mg K "LEAST_DANCER" k_LEAST_DANCER := h.2.2.2.2.2.2.2.1
theorem g_LEFT_deeds {mg : Str → Option Value} {K : PySem.W.Frag} (h : Globs mg K) : GlobC mg K "LEFT_deeds" k_LEFT_deeds := h.2.2.2.2.2.2.2.2.1
theorem g_LEFT_mending {mg : Str → Option Value} {K : PySem.W.Frag} (h : Globs mg K) : GlobC mg K "LEFT_mending" k_LEFT_mending := h.2.2.2.2.2.2.2.2.2.1
theorem g_LEFT_stands {mg : Str → Option Value} {K : PySem.W.Frag} (h : Globs mg K) : GlobC mg K "LEFT_stands" k_LEFT_stands := h.2.2.2.2.2.2.2.2.2.2.1
theorem g_RIGHT_deeds {mg : Str → Option Value} {K : PySem.W.Frag} (h : Globs mg K) : GlobC mg K "RIGHT_deeds" k_RIGHT_deeds := h.2.2.2.2.2.2.2.2.2.2.2.1
theorem g_RIGHT_stands {mg : Str → Option Value} {K : PySem.W.Frag} (h : Globs mg K) : GlobC mg K "RIGHT_stands" k_RIGHT_stands := h.2.2.2.2.2.2.2.2.2.2.2.2.1
theorem g_WORDS {mg : Str → Option Value} {K : PySem.W.Frag} (h : Globs mg K) : GlobC mg K "WORDS" k_WORDS := h.2.2.2.2.2.2.2.2.2.2.2.2.2
def errTb : List (Str × List Str) := [("NoStand", ["NoStand", "RingError", "ValueError"]), ("NoDeed", ["NoDeed", "RingError", "ValueError"])]
section
variable {P : Program} {w : World} {K : PySem.W.Frag} {mg : Str → Option Value} {base : Heap}
abbrev s__law_jar : Stmt := topS 57
abbrev N__law_jar : List Str := ["_law_script", "_law_k", "_law_cell"]
theorem sc__law_jar : FnScope N__law_jar ["_law_script", "_law_k"] (defScope s__law_jar) := ⟨rfl, rfl, rfl, by decide +kernel, rfl, by decide +kernel, by decide +kernel⟩
noncomputable def m__law_jar : MF := runD 3 (sSeq (sAsg (mC (.int 0)) (gmN 2))
  (sSeq (sIf (mT (m2 gLt (mVar 1) (mCB (on1 gLen) (aCons (mVar 0) aNil))))
  (sAsg (m2 gIx (mVar 0) (mVar 1)) (gmN 2))
  sNil)
  (sRet (mLst true (aCons (mCB (on2 gMax2) (aCons (mC (.int 0)) (aCons (m2 gSub (mVar 2) (m2 gPow (mC (.int 10)) (mC (.int 18)))) aNil))) (aCons (m2 (gAdd false) (m2 gMul (m2 gMod (mVar 2) (m2 (gAdd false) (m2 gPow (mC (.int 10)) (mC (.int 60))) (mC (.int 7)))) (mC (.int 64))) (m2 gMod (mVar 1) (mC (.int 64)))) (aCons (mC (.int 0)) aNil)))))))
theorem ok__law_jar (hB : Blts mg) (hG : Globs mg K) (h : DefAt K mg "_law_jar" s__law_jar ["_law_script", "_law_k"]) : Cal P w K mg base "_law_jar" 1 2 m__law_jar := by
  have hN := sc__law_jar.nd
  exact Cal.of (k := 0) h sc__law_jar fun f cdv A outer s H E hr hgd => (nss_cons (ns_set 2 hN rfl (.inl rfl) ne_int)
    (nss_cons (ns_if (nt_cmp op_lt ltN (ne_var 1) (ne_callB call_len lenN (b_len hB) (na_cons (ne_var 0) na_nil)) (nomark _))
    (nss_one (ns_set 2 hN rfl (.inl rfl) (ne_ix (ne_var 0) (ne_var 1))))
    nss_nil)
    (nss_one (ns_ret (ne_lst (na_cons (ne_callB (call_max2 rfl) max2N (b_max hB) (na_cons ne_int (na_cons (ne_op op_sub subN (ne_var 2) (ne_op op_powW powN ne_int ne_int)) na_nil))) (na_cons (ne_op op_addA addN (ne_op op_mulA mulN (ne_op op_mod modN (ne_var 2) (ne_op op_addA addN (ne_op op_powW powN ne_int ne_int) ne_int)) ne_int) (ne_op op_mod modN (ne_var 1) ne_int)) (na_cons ne_int na_nil))))))))
abbrev s__law_dip : Stmt := topS 58
abbrev N__law_dip : List Str := ["_law_jar_here", "_law_below", "_law_found", "_law_mixed"]
theorem sc__law_dip : FnScope N__law_dip ["_law_jar_here", "_law_below"] (defScope s__law_dip) := ⟨rfl, rfl, rfl, by decide +kernel, rfl, by decide +kernel, by decide +kernel⟩
noncomputable def m__law_dip : MF := runD 4 (sSeq (sIf (mT (m2 gGt (m2 gIx (mVar 0) (mC (.int 0))) (mC (.int 0))))
  (sSeq (sAsg (m2 gMod (m2 gIx (mVar 0) (mC (.int 0))) (mVar 1)) (gmN 2))
  (sSeq (sAsg (m2 gDiv (m2 gIx (mVar 0) (mC (.int 0))) (mVar 1)) (gmSub (mVar 0) (mC (.int 0))))
  (sRet (mVar 2))))
  sNil)
  (sSeq (sAsg (m2 (gAdd false) (m2 gIx (mVar 0) (mC (.int 2))) (mC (.int 1))) (gmSub (mVar 0) (mC (.int 2))))
  (sSeq (sAsg (m2 gMod (m2 gPow (m2 (gAdd false) (m2 (gAdd false) (m2 gIx (mVar 0) (mC (.int 1))) (m2 gMul (m2 gMul (mC (.int 40503)) (m2 gIx (mVar 0) (mC (.int 2)))) (m2 gIx (mVar 0) (mC (.int 2))))) (mC (.int 11))) (mC (.int 3))) (mC (.int 2305843009213693951))) (gmN 3))
  (sSeq (sAsg (m2 gMod (m2 gPow (m2 (gAdd false) (mVar 3) (m2 gMul (mC (.int 69621)) (m2 gIx (mVar 0) (mC (.int 2))))) (mC (.int 3))) (mC (.int 2305843009213693921))) (gmN 3))
  (sRet (m2 gMod (m2 gDiv (mVar 3) (mC (.int 65537))) (mVar 1)))))))
theorem ok__law_dip (hB : Blts mg) (hG : Globs mg K) (h : DefAt K mg "_law_dip" s__law_dip ["_law_jar_here", "_law_below"]) : Cal P w K mg base "_law_dip" 1 2 m__law_dip := by
  have hN := sc__law_dip.nd
  exact Cal.of (k := 0) h sc__law_dip fun f cdv A outer s H E hr hgd => (nss_cons (ns_if (nt_cmp op_gt gtN (ne_ix (ne_var 0) ne_int) ne_int (nomark _))
    (nss_cons (ns_set 2 hN rfl (.inl rfl) (ne_op op_mod modN (ne_ix (ne_var 0) ne_int) (ne_var 1)))
    (nss_cons (ns_asg (ne_op op_fdivW divN (ne_ix (ne_var 0) ne_int) (ne_var 1)) (ng_sub (own := []) (ne_var 0) ne_int))
    (nss_one (ns_ret (ne_var 2)))))
    nss_nil)
    (nss_cons (ns_asg (ne_op op_addA addN (ne_ix (ne_var 0) ne_int) ne_int) (ng_sub (own := []) (ne_var 0) ne_int))
    (nss_cons (ns_set 3 hN rfl (.inl rfl) (ne_op op_mod modN (ne_op op_powW powN (ne_op op_addA addN (ne_op op_addA addN (ne_ix (ne_var 0) ne_int) (ne_op op_mulA mulN (ne_op op_mulA mulN ne_int (ne_ix (ne_var 0) ne_int)) (ne_ix (ne_var 0) ne_int))) ne_int) ne_int) ne_int))
    (nss_cons (ns_set 3 hN rfl (.inl rfl) (ne_op op_mod modN (ne_op op_powW powN (ne_op op_addA addN (ne_var 3) (ne_op op_mulA mulN ne_int (ne_ix (ne_var 0) ne_int))) ne_int) ne_int))
    (nss_one (ns_ret (ne_op op_mod modN (ne_op op_fdivW divN (ne_var 3) ne_int) (ne_var 1))))))))
abbrev s__law_size : Stmt := topS 64
abbrev N__law_size : List Str := ["_law_jar_here", "_law_script", "_law_most"]
theorem sc__law_size : FnScope N__law_size ["_law_jar_here", "_law_script", "_law_most"] (defScope s__law_size) := ⟨rfl, rfl, rfl, by decide +kernel, rfl, by decide +kernel, by decide +kernel⟩
noncomputable def m__law_size : MF := runD 3 (sRet (m2 (gAdd true) (mC (.int 1)) (mF 2 m__law_dip (aCons (mVar 0) (aCons (mIf (mT (m2 gEq (mVar 1) (mLst false aNil))) (mC (.int 3)) (mVar 2)) aNil)))))
theorem ok__law_size (hB : Blts mg) (hG : Globs mg K) (h : DefAt K mg "_law_size" s__law_size ["_law_jar_here", "_law_script", "_law_most"]) (c__law_dip : Cal P w K mg base "_law_dip" 1 2 m__law_dip) : Cal P w K mg base "_law_size" 2 3 m__law_size := by
  have hN := sc__law_size.nd
  exact Cal.of (k := 1) h sc__law_size fun f cdv A outer s H E hr hgd => (nss_one (ns_ret (ne_op op_addA addN ne_int (ne_cal c__law_dip (hr.mono (by omega)) hgd pass_cx (na_cons (ne_var 0) (na_cons (ne_if (nt_cmp (op_eqE hr.units) eqN (ne_var 1) (ne_lst na_nil) (nomark _)) ne_int (ne_var 2)) na_nil))))))
abbrev s__law_ring : Stmt := topS 60
abbrev N__law_ring : List Str := ["_law_size_here"]
theorem sc__law_ring : FnScope N__law_ring ["_law_size_here"] (defScope s__law_ring) := ⟨rfl, rfl, rfl, by decide +kernel, rfl, by decide +kernel, by decide +kernel⟩
noncomputable def m__law_ring : MF := runD 1 (sRet (mTup (aCons (m2 (gRg true) (mC (.int 1)) (m2 (gAdd false) (mVar 0) (mC (.int 2)))) (aCons (m1 (gRg true (.int 0)) (m2 (gAdd false) (mVar 0) (mC (.int 1)))) aNil))))
theorem ok__law_ring (hB : Blts mg) (hG : Globs mg K) (h : DefAt K mg "_law_ring" s__law_ring ["_law_size_here"]) : Cal P w K mg base "_law_ring" 1 1 m__law_ring := by
  have hN := sc__law_ring.nd
  exact Cal.of (k := 0) h sc__law_ring fun f cdv A outer s H E hr hgd => (nss_one (ns_ret (ne_tup (na_cons (ne_listRg2 rfl (b_list hB) (b_range hB) ne_int (ne_op op_addA addN (ne_var 0) ne_int)) (na_cons (ne_listRg1 rfl (b_list hB) (b_range hB) (ne_op op_addA addN (ne_var 0) ne_int)) na_nil)))))
abbrev s__law_done : Stmt := topS 59
abbrev N__law_done : List Str := ["_law_here", "_law_act", "_law_rights", "_law_lefts", "_law_word_here", "_law_dancer", "_law_one", "_law_other"]
theorem sc__law_done : FnScope N__law_done ["_law_here", "_law_act"] (defScope s__law_done) := ⟨rfl, rfl, rfl, by decide +kernel, rfl, by decide +kernel, by decide +kernel⟩
noncomputable def m__law_done : MF := runD 8 (sSeq (sPar 2 3 (aCons (mCB (on1 (gList true)) (aCons (m2 gIx (mVar 0) (mC (.int 0))) aNil)) (aCons (mCB (on1 (gList true)) (aCons (m2 gIx (mVar 0) (mC (.int 1))) aNil)) aNil)))
  (sSeq (sAsg (mVar 1) (gmSq 2 (gmCons (gmN 4) (gmCons (gmN 5) gmNil))))
  (sSeq (sPar 6 7 (aCons (m2 gIx (mVar 3) (m2 gSub (mVar 5) (mC (.int 1)))) (aCons (m2 gIx (mVar 2) (mVar 5)) aNil)))
  (sSeq (sAsg (mIf (mT (m2 gEq (mVar 4) (mC (.str "go")))) (mVar 7) (mVar 5)) (gmSub (mVar 2) (mVar 6)))
  (sSeq (sAsg (mIf (mT (m2 gEq (mVar 4) (mC (.str "go")))) (mVar 6) (mVar 5)) (gmSub (mVar 3) (m2 gSub (mVar 7) (mC (.int 1)))))
  (sRet (mTup (aCons (mVar 2) (aCons (mVar 3) aNil)))))))))
theorem ok__law_done (hB : Blts mg) (hG : Globs mg K) (h : DefAt K mg "_law_done" s__law_done ["_law_here", "_law_act"]) : Cal P w K mg base "_law_done" 1 2 m__law_done := by
  have hN := sc__law_done.nd
  exact Cal.of (k := 0) h sc__law_done fun f cdv A outer s H E hr hgd => (nss_cons (ns_par 2 3 rfl hN rfl rfl (by decide) rfl rfl (na_cons (ne_callTy call_list_of listN (b_list hB) (na_cons (ne_ix (ne_var 0) ne_int) na_nil)) (na_cons (ne_callTy call_list_of listN (b_list hB) (na_cons (ne_ix (ne_var 0) ne_int) na_nil)) na_nil)) (by rfl))
    (nss_cons (ns_asg (ne_var 1) (ng_sq rfl (ngs_cons (ng_name (own := [4, 5]) 4 (by decide) hN rfl (.inl rfl)) (ngs_cons (ng_name (own := [4, 5]) 5 (by decide) hN rfl (.inl rfl)) ngs_nil))))
    (nss_cons (ns_par 6 7 rfl hN rfl rfl (by decide) rfl rfl (na_cons (ne_ix (ne_var 3) (ne_op op_sub subN (ne_var 5) ne_int)) (na_cons (ne_ix (ne_var 2) (ne_var 5)) na_nil)) (by rfl))
    (nss_cons (ns_asg (ne_if (nt_cmp (op_eqE hr.units) eqN (ne_var 4) ne_str (nomark _)) (ne_var 7) (ne_var 5)) (ng_sub (own := []) (ne_var 2) (ne_var 6)))
    (nss_cons (ns_asg (ne_if (nt_cmp (op_eqE hr.units) eqN (ne_var 4) ne_str (nomark _)) (ne_var 6) (ne_var 5)) (ng_sub (own := []) (ne_var 3) (ne_op op_sub subN (ne_var 7) ne_int)))
    (nss_one (ns_ret (ne_tup (na_cons (ne_var 2) (na_cons (ne_var 3) na_nil))))))))))
abbrev s__law_hands : Stmt := topS 65
abbrev N__law_hands : List Str := ["_law_jar_here", "_law_size_here", "_law_here", "_law_style", "_law_rights", "_law_spin", "_law_word_here", "_law_k"]
theorem sc__law_hands : FnScope N__law_hands ["_law_jar_here", "_law_size_here"] (defScope s__law_hands) := ⟨rfl, rfl, rfl, by decide +kernel, rfl, by decide +kernel, by decide +kernel⟩
noncomputable def m__law_hands : MF := runD 8 (sSeq (sAsg (mFz 2 (mF 1 m__law_ring (aCons (mVar 1) aNil))) (gmN 2))
  (sSeq (sAsg (mF 2 m__law_dip (aCons (mVar 0) (aCons (mC (.int 4)) aNil))) (gmN 3))
  (sSeq (sIf (mT (m2 gEq (mVar 3) (mC (.int 3))))
  (sSeq (sAsg (mLc false [7] (iRg1 (aCons (m2 (gAdd false) (mVar 1) (mC (.int 1))) aNil)) (gmN 7) tTrue (m2 (gAdd false) (m2 (gAdd false) (mVar 7) (mC (.int 1))) (mF 2 m__law_dip (aCons (mVar 0) (aCons (m2 gSub (m2 (gAdd false) (mVar 1) (mC (.int 1))) (mVar 7)) aNil))))) (gmN 4))
  (sRet (mTup (aCons (mVar 4) (aCons (mLc false [7] (iRg1 (aCons (m2 (gAdd false) (mVar 1) (mC (.int 1))) aNil)) (gmN 7) tTrue (mF 2 m__law_dip (aCons (mVar 0) (aCons (m2 (gAdd false) (mVar 7) (mC (.int 1))) aNil)))) aNil)))))
  sNil)
  (sSeq (sFor (iRg1 (aCons (mF 2 m__law_dip (aCons (mVar 0) (aCons (m2 gIx (mLst false (aCons (mC (.int 4)) (aCons (m2 (gAdd false) (m2 gMul (mC (.int 2)) (mVar 1)) (mC (.int 2))) (aCons (mC (.int 40)) aNil)))) (mVar 3)) aNil))) aNil)) (gmN 5)
  (sSeq (sAsg (m2 gIx (mLst false (aCons (mC (.str "go")) (aCons (mC (.str "come")) aNil))) (mCB (on1 gInt) (aCons (m2 gGt (mF 2 m__law_dip (aCons (mVar 0) (aCons (mC (.int 5)) aNil))) (m2 gIx (mLst false (aCons (mC (.int 3)) (aCons (mC (.int 2)) (aCons (mC (.int 1)) aNil)))) (mF 2 m__law_dip (aCons (mVar 0) (aCons (mC (.int 3)) aNil))))) aNil))) (gmN 6))
  (sAsg (mFz 2 (mF 2 m__law_done (aCons (mVar 2) (aCons (mTup (aCons (mVar 6) (aCons (m2 (gAdd false) (mC (.int 1)) (mF 2 m__law_dip (aCons (mVar 0) (aCons (mVar 1) aNil)))) aNil))) aNil)))) (gmN 2))))
  (sRet (mVar 2))))))
theorem ok__law_hands (hB : Blts mg) (hG : Globs mg K) (h : DefAt K mg "_law_hands" s__law_hands ["_law_jar_here", "_law_size_here"]) (c__law_ring : Cal P w K mg base "_law_ring" 1 1 m__law_ring) (c__law_dip : Cal P w K mg base "_law_dip" 1 2 m__law_dip) (c__law_done : Cal P w K mg base "_law_done" 1 2 m__law_done) : Cal P w K mg base "_law_hands" 2 2 m__law_hands := by
  have hN := sc__law_hands.nd
  exact Cal.of (k := 1) h sc__law_hands fun f cdv A outer s H E hr hgd => (nss_cons (ns_set 2 hN rfl (.inl rfl) (ne_fz 2 (ne_cal c__law_ring (hr.mono (by omega)) hgd pass_cx (na_cons (ne_var 1) na_nil))))
    (nss_cons (ns_set 3 hN rfl (.inl rfl) (ne_cal c__law_dip (hr.mono (by omega)) hgd pass_cx (na_cons (ne_var 0) (na_cons ne_int na_nil))))
    (nss_cons (ns_if (nt_cmp (op_eqE hr.units) eqN (ne_var 3) ne_int (nomark _))
    (nss_cons (ns_setLc (own := [("_law_k", 7)]) 4 rfl hN rfl rfl (sw_true rfl rfl rfl (by decide +kernel)) (ni_range1 (b_range hB) (na_cons (ne_op op_addA addN (ne_var 1) ne_int) na_nil)) (blkOk_by (N := N__law_hands) (sc := defScope s__law_hands) (by decide +kernel)) (fun _ _ _ _ _ => (ng_name (own := [7]) 7 (by decide) hN rfl (.inl rfl))) (fun _ _ _ _ _ => nts_nil) (fun _ _ _ _ _ => (ne_op op_addA addN (ne_op op_addA addN (ne_var 7) ne_int) (ne_cal c__law_dip (hr.mono (by omega)) hgd passL (na_cons (ne_var 0) (na_cons (ne_op op_sub subN (ne_op op_addA addN (ne_var 1) ne_int) (ne_var 7)) na_nil))))))
    (nss_one (ns_ret (ne_tup (na_cons (ne_var 4) (na_cons (ne_lc (own := [("_law_k", 7)]) rfl hN (ni_range1 (b_range hB) (na_cons (ne_op op_addA addN (ne_var 1) ne_int) na_nil)) (blkOk_by (N := N__law_hands) (sc := defScope s__law_hands) (by decide +kernel)) (fun _ _ _ _ _ => (ng_name (own := [7]) 7 (by decide) hN rfl (.inl rfl))) (fun _ _ _ _ _ => nts_nil) (fun _ _ _ _ _ => (ne_cal c__law_dip (hr.mono (by omega)) hgd passL (na_cons (ne_var 0) (na_cons (ne_op op_addA addN (ne_var 7) ne_int) na_nil))))) na_nil))))))
    nss_nil)
    (nss_cons (ns_for own_cx rfl (ni_range1 (b_range hB) (na_cons (ne_cal c__law_dip (hr.mono (by omega)) hgd pass_cx (na_cons (ne_var 0) (na_cons (ne_ix (ne_lst (na_cons ne_int (na_cons (ne_op op_addA addN (ne_op op_mulA mulN ne_int (ne_var 1)) ne_int) (na_cons ne_int na_nil)))) (ne_var 3)) na_nil))) na_nil)) (ng_name (own := [5]) 5 (by decide) hN rfl (.inl rfl))
    (nss_cons (ns_set 6 hN rfl (.inl rfl) (ne_ix (ne_lst (na_cons ne_str (na_cons ne_str na_nil))) (ne_callTy call_int3 intN (b_int hB) (na_cons (ne_cmp op_gt gtN (ne_cal c__law_dip (hr.mono (by omega)) hgd pass_cx (na_cons (ne_var 0) (na_cons ne_int na_nil))) (ne_ix (ne_lst (na_cons ne_int (na_cons ne_int (na_cons ne_int na_nil)))) (ne_cal c__law_dip (hr.mono (by omega)) hgd pass_cx (na_cons (ne_var 0) (na_cons ne_int na_nil)))) (nomark _)) na_nil))))
    (nss_one (ns_set 2 hN rfl (.inl rfl) (ne_fz 2 (ne_cal c__law_done (hr.mono (by omega)) hgd pass_cx (na_cons (ne_var 2) (na_cons (ne_tup (na_cons (ne_var 6) (na_cons (ne_op op_addA addN ne_int (ne_cal c__law_dip (hr.mono (by omega)) hgd pass_cx (na_cons (ne_var 0) (na_cons (ne_var 1) na_nil)))) na_nil))) na_nil))))))))
    (nss_one (ns_ret (ne_var 2)))))))
abbrev s__law_no_stand : Stmt := topS 67
abbrev N__law_no_stand : List Str := ["_law_jar_here", "_law_here", "_law_size_here", "_law_rights", "_law_lefts", "_law_at", "_law_some", "_law_odd"]
theorem sc__law_no_stand : FnScope N__law_no_stand ["_law_jar_here", "_law_here", "_law_size_here"] (defScope s__law_no_stand) := ⟨rfl, rfl, rfl, by decide +kernel, rfl, by decide +kernel, by decide +kernel⟩
noncomputable def m__law_no_stand : MF := runD 8 (sSeq (sAsg (mVar 1) (gmSq 2 (gmCons (gmN 3) (gmCons (gmN 4) gmNil))))
  (sSeq (sAsg (mF 2 m__law_dip (aCons (mVar 0) (aCons (m2 (gAdd false) (mVar 2) (mC (.int 1))) aNil))) (gmN 5))
  (sSeq (sAsg (mLst true (aCons (mC .non) (aCons (mC (.int 0)) (aCons (mC (.str "1 2")) (aCons (mCB (on1 (gList false)) (aCons (mVar 1) aNil)) (aCons (mTup (aCons (mVar 3) aNil)) (aCons (mTup (aCons (mVar 3) (aCons (mVar 4) (aCons (mLst false aNil) aNil)))) (aCons (mTup (aCons (mCB (on1 gTuple) (aCons (mVar 3) aNil)) (aCons (mVar 4) aNil))) (aCons (mTup (aCons (mVar 3) (aCons (mCB (on1 gTuple) (aCons (mVar 4) aNil)) aNil))) aNil))))))))) (gmN 6))
  (sSeq (sAsg (m2 (gAdd true) (mVar 6) (mLst false (aCons (mTup (aCons (mSl false (mVar 3) (oSome (mC (.int 1))) oNone) (aCons (mVar 4) aNil))) (aCons (mTup (aCons (mVar 3) (aCons (m2 (gAdd false) (mVar 4) (mLst false (aCons (mC (.int 0)) aNil))) aNil))) (aCons (mTup (aCons (m2 (gAdd false) (mVar 3) (mLst false (aCons (m2 (gAdd false) (mVar 2) (mC (.int 1))) aNil))) (aCons (m2 (gAdd false) (mVar 4) (mLst false (aCons (mC (.int 0)) aNil))) aNil))) (aCons (mTup (aCons (mLst false aNil) (aCons (mLst false aNil) aNil))) (aCons (mTup (aCons (mLst false (aCons (mC (.int 1)) aNil)) (aCons (mLst false (aCons (mC (.int 0)) aNil)) aNil))) aNil))))))) (gmN 6))
  (sSeq (sFor (iLst (mLst false (aCons (mVar 5) (aCons (m2 (gAdd false) (mVar 2) (mC (.int 2))) (aCons (mC (.bl true)) (aCons (mC .non) (aCons (mC (.str "1")) (aCons (m1 gNeg (mC (.int 1))) aNil)))))))) (gmN 7)
  (sDrop (mMt isL gAppend (mVar 6) (aCons (mTup (aCons (m2 (gAdd false) (m2 (gAdd false) (mSl false (mVar 3) oNone (oSome (mVar 5))) (mLst false (aCons (mVar 7) aNil))) (mSl false (mVar 3) (oSome (m2 (gAdd false) (mVar 5) (mC (.int 1)))) oNone)) (aCons (mVar 4) aNil))) aNil))))
  (sSeq (sFor (iLst (mLst false (aCons (m2 (gAdd false) (mVar 5) (mC (.int 1))) (aCons (m1 gNeg (mC (.int 1))) (aCons (mC (.bl false)) (aCons (mC .non) (aCons (mC (.str "0")) (aCons (mLst false (aCons (mC (.int 0)) aNil)) aNil)))))))) (gmN 7)
  (sDrop (mMt isL gAppend (mVar 6) (aCons (mTup (aCons (mVar 3) (aCons (m2 (gAdd false) (m2 (gAdd false) (mSl false (mVar 4) oNone (oSome (mVar 5))) (mLst false (aCons (mVar 7) aNil))) (mSl false (mVar 4) (oSome (m2 (gAdd false) (mVar 5) (mC (.int 1)))) oNone)) aNil))) aNil))))
  (sRet (m2 gIx (mVar 6) (mF 2 m__law_dip (aCons (mVar 0) (aCons (mCB (on1 gLen) (aCons (mVar 6) aNil)) aNil)))))))))))
theorem ok__law_no_stand (hB : Blts mg) (hG : Globs mg K) (h : DefAt K mg "_law_no_stand" s__law_no_stand ["_law_jar_here", "_law_here", "_law_size_here"]) (c__law_dip : Cal P w K mg base "_law_dip" 1 2 m__law_dip) : Cal P w K mg base "_law_no_stand" 2 3 m__law_no_stand := by
  have hN := sc__law_no_stand.nd
  exact Cal.of (k := 1) h sc__law_no_stand fun f cdv A outer s H E hr hgd => (nss_cons (ns_asg (ne_var 1) (ng_sq rfl (ngs_cons (ng_name (own := [3, 4]) 3 (by decide) hN rfl (.inl rfl)) (ngs_cons (ng_name (own := [3, 4]) 4 (by decide) hN rfl (.inl rfl)) ngs_nil))))
    (nss_cons (ns_set 5 hN rfl (.inl rfl) (ne_cal c__law_dip (hr.mono (by omega)) hgd pass_cx (na_cons (ne_var 0) (na_cons (ne_op op_addA addN (ne_var 2) ne_int) na_nil))))
    (nss_cons (ns_set 6 hN rfl (.inl rfl) (ne_lst (na_cons ne_non (na_cons ne_int (na_cons ne_str (na_cons (ne_callTy call_list_of listN (b_list hB) (na_cons (ne_var 1) na_nil)) (na_cons (ne_tup (na_cons (ne_var 3) na_nil)) (na_cons (ne_tup (na_cons (ne_var 3) (na_cons (ne_var 4) (na_cons (ne_lst na_nil) na_nil)))) (na_cons (ne_tup (na_cons (ne_callTy call_tuple_of tupleN (b_tuple hB) (na_cons (ne_var 3) na_nil)) (na_cons (ne_var 4) na_nil))) (na_cons (ne_tup (na_cons (ne_var 3) (na_cons (ne_callTy call_tuple_of tupleN (b_tuple hB) (na_cons (ne_var 4) na_nil)) na_nil))) na_nil))))))))))
    (nss_cons (ns_set 6 hN rfl (.inl rfl) (ne_op op_addA addN (ne_var 6) (ne_lst (na_cons (ne_tup (na_cons (ne_sl (ne_var 3) (no_some ne_int) no_none) (na_cons (ne_var 4) na_nil))) (na_cons (ne_tup (na_cons (ne_var 3) (na_cons (ne_op op_addA addN (ne_var 4) (ne_lst (na_cons ne_int na_nil))) na_nil))) (na_cons (ne_tup (na_cons (ne_op op_addA addN (ne_var 3) (ne_lst (na_cons (ne_op op_addA addN (ne_var 2) ne_int) na_nil))) (na_cons (ne_op op_addA addN (ne_var 4) (ne_lst (na_cons ne_int na_nil))) na_nil))) (na_cons (ne_tup (na_cons (ne_lst na_nil) (na_cons (ne_lst na_nil) na_nil))) (na_cons (ne_tup (na_cons (ne_lst (na_cons ne_int na_nil)) (na_cons (ne_lst (na_cons ne_int na_nil)) na_nil))) na_nil))))))))
    (nss_cons (ns_for own_cx rfl (ni_list (ne_lst (na_cons (ne_var 5) (na_cons (ne_op op_addA addN (ne_var 2) ne_int) (na_cons ne_bl (na_cons ne_non (na_cons ne_str (na_cons (ne_un un_neg un_negN ne_int) na_nil)))))))) (ng_name (own := [7]) 7 (by decide) hN rfl (.inl rfl))
    (nss_one (ns_expr (ne_mt PySem.F.plainAttrs_list PySem.F.slot_list_append PySem.F.type_list_append mt_append chk_list appendN (ne_var 6) (na_cons (ne_tup (na_cons (ne_op op_addA addN (ne_op op_addA addN (ne_sl (ne_var 3) no_none (no_some (ne_var 5))) (ne_lst (na_cons (ne_var 7) na_nil))) (ne_sl (ne_var 3) (no_some (ne_op op_addA addN (ne_var 5) ne_int)) no_none)) (na_cons (ne_var 4) na_nil))) na_nil)))))
    (nss_cons (ns_for own_cx rfl (ni_list (ne_lst (na_cons (ne_op op_addA addN (ne_var 5) ne_int) (na_cons (ne_un un_neg un_negN ne_int) (na_cons ne_bl (na_cons ne_non (na_cons ne_str (na_cons (ne_lst (na_cons ne_int na_nil)) na_nil)))))))) (ng_name (own := [7]) 7 (by decide) hN rfl (.inl rfl))
    (nss_one (ns_expr (ne_mt PySem.F.plainAttrs_list PySem.F.slot_list_append PySem.F.type_list_append mt_append chk_list appendN (ne_var 6) (na_cons (ne_tup (na_cons (ne_var 3) (na_cons (ne_op op_addA addN (ne_op op_addA addN (ne_sl (ne_var 4) no_none (no_some (ne_var 5))) (ne_lst (na_cons (ne_var 7) na_nil))) (ne_sl (ne_var 4) (no_some (ne_op op_addA addN (ne_var 5) ne_int)) no_none)) na_nil))) na_nil)))))
    (nss_one (ns_ret (ne_ix (ne_var 6) (ne_cal c__law_dip (hr.mono (by omega)) hgd pass_cx (na_cons (ne_var 0) (na_cons (ne_callB call_len lenN (b_len hB) (na_cons (ne_var 6) na_nil)) na_nil))))))))))))
abbrev s__law_no_deed : Stmt := topS 68
abbrev N__law_no_deed : List Str := ["_law_jar_here", "_law_size_here", "_law_some"]
theorem sc__law_no_deed : FnScope N__law_no_deed ["_law_jar_here", "_law_size_here"] (defScope s__law_no_deed) := ⟨rfl, rfl, rfl, by decide +kernel, rfl, by decide +kernel, by decide +kernel⟩
noncomputable def m__law_no_deed : MF := runD 3 (sSeq (sAsg (mLst false (aCons (mC .non) (aCons (mC (.int 1)) (aCons (mC (.str "go 1")) (aCons (mTup (aCons (mC (.str "go")) aNil)) (aCons (mLst false (aCons (mC (.str "go")) (aCons (mC (.int 1)) aNil))) (aCons (mTup (aCons (mC (.str "go")) (aCons (mC (.int 0)) aNil))) (aCons (mTup (aCons (mC (.str "go")) (aCons (m2 (gAdd false) (mVar 1) (mC (.int 1))) aNil))) (aCons (mTup (aCons (mC (.str "come")) (aCons (m1 gNeg (mC (.int 1))) aNil))) (aCons (mTup (aCons (mC (.str "go")) (aCons (mC (.bl true)) aNil))) (aCons (mTup (aCons (mC (.str "Go")) (aCons (mC (.int 1)) aNil))) aNil))))))))))) (gmN 2))
  (sSeq (sAsg (m2 (gAdd false) (mVar 2) (mLst false (aCons (mTup (aCons (mC (.str "go")) (aCons (mC (.str "1")) aNil))) (aCons (mTup (aCons (mC (.str "go")) (aCons (mC (.int 1)) (aCons (mC (.int 1)) aNil)))) (aCons (mTup (aCons (mC (.int 1)) (aCons (mC (.str "go")) aNil))) (aCons (mTup (aCons (mC (.str "")) (aCons (mC (.int 1)) aNil))) (aCons (mTup (aCons (mC .non) (aCons (mC (.int 1)) aNil))) (aCons (mTup (aCons (mC (.str "come")) (aCons (mC .non) aNil))) (aCons mDEmp (aCons (mTup (aCons (mLst false (aCons (mC (.str "go")) aNil)) (aCons (mC (.int 1)) aNil))) aNil)))))))))) (gmN 2))
  (sRet (m2 gIx (mVar 2) (mF 2 m__law_dip (aCons (mVar 0) (aCons (mCB (on1 gLen) (aCons (mVar 2) aNil)) aNil)))))))
theorem ok__law_no_deed (hB : Blts mg) (hG : Globs mg K) (h : DefAt K mg "_law_no_deed" s__law_no_deed ["_law_jar_here", "_law_size_here"]) (c__law_dip : Cal P w K mg base "_law_dip" 1 2 m__law_dip) : Cal P w K mg base "_law_no_deed" 2 2 m__law_no_deed := by
  have hN := sc__law_no_deed.nd
  exact Cal.of (k := 1) h sc__law_no_deed fun f cdv A outer s H E hr hgd => (nss_cons (ns_set 2 hN rfl (.inl rfl) (ne_lst (na_cons ne_non (na_cons ne_int (na_cons ne_str (na_cons (ne_tup (na_cons ne_str na_nil)) (na_cons (ne_lst (na_cons ne_str (na_cons ne_int na_nil))) (na_cons (ne_tup (na_cons ne_str (na_cons ne_int na_nil))) (na_cons (ne_tup (na_cons ne_str (na_cons (ne_op op_addA addN (ne_var 1) ne_int) na_nil))) (na_cons (ne_tup (na_cons ne_str (na_cons (ne_un un_neg un_negN ne_int) na_nil))) (na_cons (ne_tup (na_cons ne_str (na_cons ne_bl na_nil))) (na_cons (ne_tup (na_cons ne_str (na_cons ne_int na_nil))) na_nil))))))))))))
    (nss_cons (ns_set 2 hN rfl (.inl rfl) (ne_op op_addA addN (ne_var 2) (ne_lst (na_cons (ne_tup (na_cons ne_str (na_cons ne_str na_nil))) (na_cons (ne_tup (na_cons ne_str (na_cons ne_int (na_cons ne_int na_nil)))) (na_cons (ne_tup (na_cons ne_int (na_cons ne_str na_nil))) (na_cons (ne_tup (na_cons ne_str (na_cons ne_int na_nil))) (na_cons (ne_tup (na_cons ne_non (na_cons ne_int na_nil))) (na_cons (ne_tup (na_cons ne_str (na_cons ne_non na_nil))) (na_cons ne_demp (na_cons (ne_tup (na_cons (ne_lst (na_cons ne_str na_nil)) (na_cons ne_int na_nil))) na_nil)))))))))))
    (nss_one (ns_ret (ne_ix (ne_var 2) (ne_cal c__law_dip (hr.mono (by omega)) hgd pass_cx (na_cons (ne_var 0) (na_cons (ne_callB call_len lenN (b_len hB) (na_cons (ne_var 2) na_nil)) na_nil))))))))
abbrev s_is_between : Stmt := topS 20
abbrev N_is_between : List Str := ["thing", "least", "most"]
theorem sc_is_between : FnScope N_is_between ["thing", "least", "most"] (defScope s_is_between) := ⟨rfl, rfl, rfl, by decide +kernel, rfl, by decide +kernel, by decide +kernel⟩
noncomputable def m_is_between : MF := runD 3 (sRet (mAnd (m1 (gIsi "int") (mVar 0)) (mAnd (mNot (m1 (gIsi "bool") (mVar 0))) (mCh gLe gLe (mVar 1) (mVar 0) (mVar 2)))))
theorem ok_is_between (hB : Blts mg) (hG : Globs mg K) (h : DefAt K mg "is_between" s_is_between ["thing", "least", "most"]) : Cal P w K mg base "is_between" 1 3 m_is_between := by
  have hN := sc_is_between.nd
  exact Cal.of (k := 0) h sc_is_between fun f cdv A outer s H E hr hgd => (nss_one (ns_ret (ne_and (ne_isi (b_isinstance hB) (b_int hB) boot_int (by decide) (ne_var 0)) (ne_and (ne_not (ne_isi (b_isinstance hB) (b_bool hB) boot_bool (by decide) (ne_var 0))) (ne_one (ne_ch op_le op_le leN leN (ne_var 1) (ne_var 0) (ne_var 2)))))))
abbrev s_is_stand : Stmt := topS 21
abbrev N_is_stand : List Str := ["thing", "rights", "lefts", "many", "i", "hands"]
theorem sc_is_stand : FnScope N_is_stand ["thing"] (defScope s_is_stand) := ⟨rfl, rfl, rfl, by decide +kernel, rfl, by decide +kernel, by decide +kernel⟩
noncomputable def m_is_stand : MF := runD 6 (sSeq (sIf (tOrM (tNotM (mT (m1 (gIsi "tuple") (mVar 0)))) (tOrM (mT (m2 gNe (mCB (on1 gLen) (aCons (mVar 0) aNil)) (mC (.int 2)))) (tNotM (mT (mCB (on1 gAll) (aCons (mLc false [5] (iTp (mVar 0)) (gmN 5) tTrue (m1 (gIsi "list") (mVar 5))) aNil))))))
  (sRet (mC (.bl false)))
  sNil)
  (sSeq (sAsg (mVar 0) (gmSq 2 (gmCons (gmN 1) (gmCons (gmN 2) gmNil))))
  (sSeq (sAsg (mCB (on1 gLen) (aCons (mVar 1) aNil)) (gmN 3))
  (sSeq (sIf (tOrM (mT (m2 gLt (mVar 3) (mC (.int 2)))) (tOrM (mT (m2 gNe (mCB (on1 gLen) (aCons (mVar 2) aNil)) (mVar 3))) (tNotM (mT (mCB (on1 gAll) (aCons (mLc false [4] (iRg1 (aCons (mVar 3) aNil)) (gmN 4) tTrue (mF 3 m_is_between (aCons (m2 gIx (mVar 1) (mVar 4)) (aCons (m2 (gAdd false) (mVar 4) (mC (.int 1))) (aCons (mVar 3) aNil))))) aNil))))))
  (sRet (mC (.bl false)))
  sNil)
  (sRet (mCB (on1 gAll) (aCons (mLc false [4] (iRg1 (aCons (mVar 3) aNil)) (gmN 4) tTrue (mF 3 m_is_between (aCons (m2 gIx (mVar 2) (mVar 4)) (aCons (mC (.int 0)) (aCons (mVar 4) aNil))))) aNil)))))))
theorem ok_is_stand (hB : Blts mg) (hG : Globs mg K) (h : DefAt K mg "is_stand" s_is_stand ["thing"]) (c_is_between : Cal P w K mg base "is_between" 1 3 m_is_between) : Cal P w K mg base "is_stand" 2 1 m_is_stand := by
  have hN := sc_is_stand.nd
  exact Cal.of (k := 1) h sc_is_stand fun f cdv A outer s H E hr hgd => (nss_cons (ns_if (nt_w (nw_or (nt_not (nt_val (ne_isi (b_isinstance hB) (b_tuple hB) boot_tuple (by decide) (ne_var 0)))) (nw_or (nt_cmp (op_neE hr.units) neN (ne_callB call_len lenN (b_len hB) (na_cons (ne_var 0) na_nil)) ne_int (nomark _)) (nw_or1 (nt_not (nt_val (ne_callB (cr_all rfl) allN (b_all hB) (na_cons (ne_lc (own := [("hands", 5)]) rfl hN (ni_tup (ne_var 0)) (blkOk_by (N := N_is_stand) (sc := defScope s_is_stand) (by decide +kernel)) (fun _ _ _ _ _ => (ng_name (own := [5]) 5 (by decide) hN rfl (.inl rfl))) (fun _ _ _ _ _ => nts_nil) (fun _ _ _ _ _ => (ne_isi (b_isinstance hB) (b_list hB) boot_list (by decide) (ne_var 5)))) na_nil))))))))
    (nss_one (ns_ret ne_bl))
    nss_nil)
    (nss_cons (ns_asg (ne_var 0) (ng_sq rfl (ngs_cons (ng_name (own := [1, 2]) 1 (by decide) hN rfl (.inr rfl)) (ngs_cons (ng_name (own := [1, 2]) 2 (by decide) hN rfl (.inr rfl)) ngs_nil))))
    (nss_cons (ns_set 3 hN rfl (.inr rfl) (ne_callB call_len lenN (b_len hB) (na_cons (ne_var 1) na_nil)))
    (nss_cons (ns_if (nt_w (nw_or (nt_cmp op_lt ltN (ne_var 3) ne_int (nomark _)) (nw_or (nt_cmp (op_neE hr.units) neN (ne_callB call_len lenN (b_len hB) (na_cons (ne_var 2) na_nil)) (ne_var 3) (nomark _)) (nw_or1 (nt_not (nt_val (ne_callB (cr_all rfl) allN (b_all hB) (na_cons (ne_lc (own := [("i", 4)]) rfl hN (ni_range1 (b_range hB) (na_cons (ne_var 3) na_nil)) (blkOk_by (N := N_is_stand) (sc := defScope s_is_stand) (by decide +kernel)) (fun _ _ _ _ _ => (ng_name (own := [4]) 4 (by decide) hN rfl (.inl rfl))) (fun _ _ _ _ _ => nts_nil) (fun _ _ _ _ _ => (ne_cal c_is_between (hr.mono (by omega)) hgd passL (na_cons (ne_ix (ne_var 1) (ne_var 4)) (na_cons (ne_op op_addA addN (ne_var 4) ne_int) (na_cons (ne_var 3) na_nil)))))) na_nil))))))))
    (nss_one (ns_ret ne_bl))
    nss_nil)
    (nss_one (ns_ret (ne_callB (cr_all rfl) allN (b_all hB) (na_cons (ne_lc (own := [("i", 4)]) rfl hN (ni_range1 (b_range hB) (na_cons (ne_var 3) na_nil)) (blkOk_by (N := N_is_stand) (sc := defScope s_is_stand) (by decide +kernel)) (fun _ _ _ _ _ => (ng_name (own := [4]) 4 (by decide) hN rfl (.inl rfl))) (fun _ _ _ _ _ => nts_nil) (fun _ _ _ _ _ => (ne_cal c_is_between (hr.mono (by omega)) hgd passL (na_cons (ne_ix (ne_var 2) (ne_var 4)) (na_cons ne_int (na_cons (ne_var 4) na_nil)))))) na_nil))))))))
abbrev s_need_stand : Stmt := topS 22
abbrev N_need_stand : List Str := ["stand"]
theorem sc_need_stand : FnScope N_need_stand ["stand"] (defScope s_need_stand) := ⟨rfl, rfl, rfl, by decide +kernel, rfl, by decide +kernel, by decide +kernel⟩
noncomputable def m_need_stand : MF := runD 1 (sIf (tNotM (mT (mF 1 m_is_stand (aCons (mVar 0) aNil))))
  (sRaise0 "NoStand")
  sNil)
theorem ok_need_stand (hB : Blts mg) (hG : Globs mg K) (h : DefAt K mg "need_stand" s_need_stand ["stand"]) (c_is_stand : Cal P w K mg base "is_stand" 2 1 m_is_stand) (r_NoStand : Raise0 K mg "NoStand") : Cal P w K mg base "need_stand" 3 1 m_need_stand := by
  have hN := sc_need_stand.nd
  exact Cal.of (k := 2) h sc_need_stand fun f cdv A outer s H E hr hgd => (nss_one (ns_if (nt_not (nt_val (ne_cal c_is_stand (hr.mono (by omega)) hgd pass_cx (na_cons (ne_var 0) na_nil))))
    (nss_one (ns_raise0X r_NoStand rfl (takes_of rfl rfl rfl rfl)))
    nss_nil))
abbrev s_word_of : Stmt := topS 24
abbrev N_word_of : List Str := ["stand", "border", "rights", "lefts", "by_left", "by_right"]
theorem sc_word_of : FnScope N_word_of ["stand", "border"] (defScope s_word_of) := ⟨rfl, rfl, rfl, by decide +kernel, rfl, by decide +kernel, by decide +kernel⟩
noncomputable def m_word_of : MF := runD 6 (sSeq (sAsg (mVar 0) (gmSq 2 (gmCons (gmN 2) (gmCons (gmN 3) gmNil))))
  (sSeq (sPar 4 5 (aCons (m2 gEq (m2 gIx (mVar 2) (mVar 1)) (m2 (gAdd false) (mVar 1) (mC (.int 1)))) (aCons (m2 gEq (m2 gIx (mVar 3) (mVar 1)) (mVar 1)) aNil)))
  (sSeq (sIf (mT (mVar 4))
  (sRet (mIf (mT (mVar 5)) (mC k_HELD_stands) (mC k_LEFT_stands)))
  sNil)
  (sRet (mIf (mT (mVar 5)) (mC k_RIGHT_stands) (mC k_FORGOTTEN_stands))))))
theorem ok_word_of (hB : Blts mg) (hG : Globs mg K) (h : DefAt K mg "word_of" s_word_of ["stand", "border"]) : Cal P w K mg base "word_of" 1 2 m_word_of := by
  have hN := sc_word_of.nd
  exact Cal.of (k := 0) h sc_word_of fun f cdv A outer s H E hr hgd => (nss_cons (ns_asg (ne_var 0) (ng_sq rfl (ngs_cons (ng_name (own := [2, 3]) 2 (by decide) hN rfl (.inl rfl)) (ngs_cons (ng_name (own := [2, 3]) 3 (by decide) hN rfl (.inl rfl)) ngs_nil))))
    (nss_cons (ns_par 4 5 rfl hN rfl rfl (by decide) rfl rfl (na_cons (ne_cmp (op_eqE hr.units) eqN (ne_ix (ne_var 2) (ne_var 1)) (ne_op op_addA addN (ne_var 1) ne_int) (nomark _)) (na_cons (ne_cmp (op_eqE hr.units) eqN (ne_ix (ne_var 3) (ne_var 1)) (ne_var 1) (nomark _)) na_nil)) (by rfl))
    (nss_cons (ns_if (nt_val (ne_var 4))
    (nss_one (ns_ret (ne_if (nt_val (ne_var 5)) (ne_glob (g_HELD_stands hG)) (ne_glob (g_LEFT_stands hG)))))
    nss_nil)
    (nss_one (ns_ret (ne_if (nt_val (ne_var 5)) (ne_glob (g_RIGHT_stands hG)) (ne_glob (g_FORGOTTEN_stands hG))))))))
abbrev s_words : Stmt := topS 25
abbrev N_words : List Str := ["stand", "border"]
theorem sc_words : FnScope N_words ["stand"] (defScope s_words) := ⟨rfl, rfl, rfl, by decide +kernel, rfl, by decide +kernel, by decide +kernel⟩
noncomputable def m_words : MF := runD 2 (sSeq (sDrop (mF 1 m_need_stand (aCons (mVar 0) aNil)))
  (sRet (mLc true [1] (iRg1 (aCons (mCB (on1 gLen) (aCons (m2 gIx (mVar 0) (mC (.int 0))) aNil)) aNil)) (gmN 1) tTrue (mF 2 m_word_of (aCons (mVar 0) (aCons (mVar 1) aNil))))))
theorem ok_words (hB : Blts mg) (hG : Globs mg K) (h : DefAt K mg "words" s_words ["stand"]) (c_need_stand : Cal P w K mg base "need_stand" 3 1 m_need_stand) (c_word_of : Cal P w K mg base "word_of" 1 2 m_word_of) : Cal P w K mg base "words" 4 1 m_words := by
  have hN := sc_words.nd
  exact Cal.of (k := 3) h sc_words fun f cdv A outer s H E hr hgd => (nss_cons (ns_expr (ne_cal c_need_stand (hr.mono (by omega)) hgd pass_cx (na_cons (ne_var 0) na_nil)))
    (nss_one (ns_ret (ne_lc (own := [("border", 1)]) rfl hN (ni_range1 (b_range hB) (na_cons (ne_callB call_len lenN (b_len hB) (na_cons (ne_ix (ne_var 0) ne_int) na_nil)) na_nil)) (blkOk_by (N := N_words) (sc := defScope s_words) (by decide +kernel)) (fun _ _ _ _ _ => (ng_name (own := [1]) 1 (by decide) hN rfl (.inl rfl))) (fun _ _ _ _ _ => nts_nil) (fun _ _ _ _ _ => (ne_cal c_word_of (hr.mono (by omega)) hgd passL (na_cons (ne_var 0) (na_cons (ne_var 1) na_nil))))))))
abbrev s_owners_in : Stmt := topS 44
abbrev N_owners_in : List Str := ["told", "border", "word"]
theorem sc_owners_in : FnScope N_owners_in ["told"] (defScope s_owners_in) := ⟨rfl, rfl, rfl, by decide +kernel, rfl, by decide +kernel, by decide +kernel⟩
noncomputable def m_owners_in : MF := runD 3 (sRet (mLc true [1, 2] (iEn (aCons (mVar 0) aNil)) (gmSq 2 (gmCons (gmN 1) (gmCons (gmN 2) gmNil))) (mT (m2 gNe (mVar 2) (mC k_HELD_mending))) (mTup (aCons (mVar 1) (aCons (m2 (gAdd false) (mVar 1) (mCB (on1 gInt) (aCons (m2 gNe (mVar 2) (mC k_LEFT_mending)) aNil))) aNil)))))
theorem ok_owners_in (hB : Blts mg) (hG : Globs mg K) (h : DefAt K mg "owners_in" s_owners_in ["told"]) : Cal P w K mg base "owners_in" 1 1 m_owners_in := by
  have hN := sc_owners_in.nd
  exact Cal.of (k := 0) h sc_owners_in fun f cdv A outer s H E hr hgd => (nss_one (ns_ret (ne_lc (own := [("border", 1), ("word", 2)]) rfl hN (ni_enum (b_enumerate hB) (na_cons (ne_var 0) na_nil)) (blkOk_by (N := N_owners_in) (sc := defScope s_owners_in) (by decide +kernel)) (fun _ _ _ _ _ => (ng_sq rfl (ngs_cons (ng_name (own := [1, 2]) 1 (by decide) hN rfl (.inl rfl)) (ngs_cons (ng_name (own := [1, 2]) 2 (by decide) hN rfl (.inl rfl)) ngs_nil)))) (fun _ _ _ _ _ => (nts_one (nt_cmp (op_neE hr.units) neN (ne_var 2) (ne_glob (g_HELD_mending hG)) (nomark _)))) (fun _ _ _ _ _ => (ne_tup (na_cons (ne_var 1) (na_cons (ne_op op_addA addN (ne_var 1) (ne_callTy call_int3 intN (b_int hB) (na_cons (ne_cmp (op_neE hr.units) neN (ne_var 2) (ne_glob (g_LEFT_mending hG)) (nomark _)) na_nil))) na_nil)))))))
abbrev s_fewest : Stmt := topS 45
abbrev N_fewest : List Str := ["stand", "told", "border", "dancer"]
theorem sc_fewest : FnScope N_fewest ["stand"] (defScope s_fewest) := ⟨rfl, rfl, rfl, by decide +kernel, rfl, by decide +kernel, by decide +kernel⟩
noncomputable def m_fewest : MF := runD 4 (sSeq (sAsg (mFz 2 (mF 1 m_words (aCons (mVar 0) aNil))) (gmN 1))
  (sSeq (sIf (mT (m2 (gIn false) (mC k_FORGOTTEN_mending) (mVar 1)))
  (sRet (mC .non))
  sNil)
  (sRet (mSc gLenSc [2, 3] (iLst (mFz 2 (mF 1 m_owners_in (aCons (mVar 1) aNil)))) (gmSq 2 (gmCons (gmN 2) (gmCons (gmN 3) gmNil))) tTrue (mVar 3)))))
theorem ok_fewest (hB : Blts mg) (hG : Globs mg K) (h : DefAt K mg "fewest" s_fewest ["stand"]) (c_words : Cal P w K mg base "words" 4 1 m_words) (c_owners_in : Cal P w K mg base "owners_in" 1 1 m_owners_in) : Cal P w K mg base "fewest" 5 1 m_fewest := by
  have hN := sc_fewest.nd
  exact Cal.of (k := 4) h sc_fewest fun f cdv A outer s H E hr hgd => (nss_cons (ns_set 1 hN rfl (.inl rfl) (ne_fz 2 (ne_cal c_words (hr.mono (by omega)) hgd pass_cx (na_cons (ne_var 0) na_nil))))
    (nss_cons (ns_if (nt_cmp op_in_seq inN (ne_glob (g_FORGOTTEN_mending hG)) (ne_var 1) (by rfl))
    (nss_one (ns_ret ne_non))
    nss_nil)
    (nss_one (ns_ret (ne_lenSc (own := [("border", 2), ("dancer", 3)]) (b_len hB) rfl hN (ni_list (ne_fz 2 (ne_cal c_owners_in (hr.mono (by omega)) hgd pass_cx (na_cons (ne_var 1) na_nil)))) (blkOk_by (N := N_fewest) (sc := defScope s_fewest) (by decide +kernel)) (fun _ _ _ _ _ => (ng_sq rfl (ngs_cons (ng_name (own := [2, 3]) 2 (by decide) hN rfl (.inl rfl)) (ngs_cons (ng_name (own := [2, 3]) 3 (by decide) hN rfl (.inl rfl)) ngs_nil)))) (fun _ _ _ _ _ => nts_nil) (fun _ _ _ _ _ => (ne_var 3)))))))
abbrev s_all_deeds : Stmt := topS 49
abbrev N_all_deeds : List Str := ["stand", "x", "word"]
theorem sc_all_deeds : FnScope N_all_deeds ["stand"] (defScope s_all_deeds) := ⟨rfl, rfl, rfl, by decide +kernel, rfl, by decide +kernel, by decide +kernel⟩
noncomputable def m_all_deeds : MF := runD 3 (sRet (mLc2 true [1, 2] [2] (iRg2 (aCons (mC (.int 1)) (aCons (mCB (on1 gLen) (aCons (m2 gIx (mVar 0) (mC (.int 0))) aNil)) aNil))) (gmN 1) tTrue (iTp (mTup (aCons (mC k_GO_later) (aCons (mC k_COME_later) aNil)))) (gmN 2) tTrue (mTup (aCons (mVar 2) (aCons (mVar 1) aNil)))))
theorem ok_all_deeds (hB : Blts mg) (hG : Globs mg K) (h : DefAt K mg "all_deeds" s_all_deeds ["stand"]) : Cal P w K mg base "all_deeds" 1 1 m_all_deeds := by
  have hN := sc_all_deeds.nd
  exact Cal.of (k := 0) h sc_all_deeds fun f cdv A outer s H E hr hgd => (nss_one (ns_ret (ne_lc2 (own := [("x", 1), ("word", 2)]) (vs1 := [2]) rfl hN (ni_range2 (b_range hB) (na_cons ne_int (na_cons (ne_callB call_len lenN (b_len hB) (na_cons (ne_ix (ne_var 0) ne_int) na_nil)) na_nil))) (blkOk_by (N := N_all_deeds) (sc := defScope s_all_deeds) (by decide +kernel)) (fun _ _ _ _ _ => (ng_name (own := [1, 2]) 1 (by decide) hN rfl (.inl rfl))) (fun _ _ _ _ _ => nts_nil) (fun _ _ _ _ _ => (ni_tup (ne_tup (na_cons (ne_glob (g_GO_later hG)) (na_cons (ne_glob (g_COME_later hG)) na_nil))))) (fun _ _ _ _ _ => (ng_name (own := [2]) 2 (by decide) hN rfl (.inl rfl))) (fun _ _ _ _ _ => nts_nil) (fun _ _ _ _ _ => (ne_tup (na_cons (ne_var 2) (na_cons (ne_var 1) na_nil)))))))
abbrev s_is_deed : Stmt := topS 34
abbrev N_is_deed : List Str := ["thing", "most", "dancer"]
theorem sc_is_deed : FnScope N_is_deed ["thing", "most"] (defScope s_is_deed) := ⟨rfl, rfl, rfl, by decide +kernel, rfl, by decide +kernel, by decide +kernel⟩
noncomputable def m_is_deed : MF := runD 3 (sSeq (sIf (tOrM (tNotM (mT (m1 (gIsi "tuple") (mVar 0)))) (tOrM (mT (m2 gNe (mCB (on1 gLen) (aCons (mVar 0) aNil)) (mC (.int 2)))) (tOrM (tNotM (mT (m1 (gIsi "str") (m2 gIx (mVar 0) (mC (.int 0)))))) (mT (m2 (gIn true) (m2 gIx (mVar 0) (mC (.int 0))) (mC k_WORDS))))))
  (sRet (mC (.bl false)))
  sNil)
  (sSeq (sAsg (m2 gIx (mVar 0) (mC (.int 1))) (gmN 2))
  (sRet (mF 3 m_is_between (aCons (mVar 2) (aCons (mC k_LEAST_DANCER) (aCons (mIf (mT (m2 gIs (mVar 1) (mC .non))) (mVar 2) (mVar 1)) aNil)))))))
theorem ok_is_deed (hB : Blts mg) (hG : Globs mg K) (h : DefAt K mg "is_deed" s_is_deed ["thing", "most"]) (c_is_between : Cal P w K mg base "is_between" 1 3 m_is_between) : Cal P w K mg base "is_deed" 2 2 m_is_deed := by
  have hN := sc_is_deed.nd
  exact Cal.of (k := 1) h sc_is_deed fun f cdv A outer s H E hr hgd => (nss_cons (ns_if (nt_w (nw_or (nt_not (nt_val (ne_isi (b_isinstance hB) (b_tuple hB) boot_tuple (by decide) (ne_var 0)))) (nw_or (nt_cmp (op_neE hr.units) neN (ne_callB call_len lenN (b_len hB) (na_cons (ne_var 0) na_nil)) ne_int (nomark _)) (nw_or (nt_not (nt_val (ne_isi (b_isinstance hB) (b_str hB) boot_str (by decide) (ne_ix (ne_var 0) ne_int)))) (nw_or1 (nt_cmp op_notIn_seq inN (ne_ix (ne_var 0) ne_int) (ne_glob (g_WORDS hG)) (by rfl)))))))
    (nss_one (ns_ret ne_bl))
    nss_nil)
    (nss_cons (ns_set 2 hN rfl (.inl rfl) (ne_ix (ne_var 0) ne_int))
    (nss_one (ns_ret (ne_cal c_is_between (hr.mono (by omega)) hgd pass_cx (na_cons (ne_var 2) (na_cons (ne_glob (g_LEAST_DANCER hG)) (na_cons (ne_if (nt_cmp op_is2 isN2 (ne_var 1) ne_non (nomark _)) (ne_var 2) (ne_var 1)) na_nil))))))))
abbrev s_need_deeds : Stmt := topS 35
abbrev N_need_deeds : List Str := ["deeds", "most", "number", "deed"]
theorem sc_need_deeds : FnScope N_need_deeds ["deeds", "most"] (defScope s_need_deeds) := ⟨rfl, rfl, rfl, by decide +kernel, rfl, by decide +kernel, by decide +kernel⟩
noncomputable def m_need_deeds : MF := runD 4 (sSeq (sIf (tNotM (mT (m1 (gIsi "list") (mVar 0))))
  (sRaise1 "NoDeed" "at" (mC (.int 0)))
  sNil)
  (sFor (iEn (aCons (mVar 0) aNil)) (gmSq 2 (gmCons (gmN 2) (gmCons (gmN 3) gmNil)))
  (sIf (tNotM (mT (mF 2 m_is_deed (aCons (mVar 3) (aCons (mVar 1) aNil)))))
  (sRaise1 "NoDeed" "at" (m2 (gAdd false) (mVar 2) (mC (.int 1))))
  sNil)))
theorem ok_need_deeds (hB : Blts mg) (hG : Globs mg K) (h : DefAt K mg "need_deeds" s_need_deeds ["deeds", "most"]) (c_is_deed : Cal P w K mg base "is_deed" 2 2 m_is_deed) (e_NoDeed : ErrX P w K mg base "NoDeed" "at" "RingError") : Cal P w K mg base "need_deeds" 3 2 m_need_deeds := by
  have hN := sc_need_deeds.nd
  exact Cal.of (k := 2) h sc_need_deeds fun f cdv A outer s H E hr hgd => (nss_cons (ns_if (nt_not (nt_val (ne_isi (b_isinstance hB) (b_list hB) boot_list (by decide) (ne_var 0))))
    (nss_one (ns_raiseX e_NoDeed (hr.mono (by omega)) rfl (takes_of rfl rfl rfl rfl) ne_int))
    nss_nil)
    (nss_one (ns_for own_cx rfl (ni_enum (b_enumerate hB) (na_cons (ne_var 0) na_nil)) (ng_sq rfl (ngs_cons (ng_name (own := [2, 3]) 2 (by decide) hN rfl (.inl rfl)) (ngs_cons (ng_name (own := [2, 3]) 3 (by decide) hN rfl (.inl rfl)) ngs_nil)))
    (nss_one (ns_if (nt_not (nt_val (ne_cal c_is_deed (hr.mono (by omega)) hgd pass_cx (na_cons (ne_var 3) (na_cons (ne_var 1) na_nil)))))
    (nss_one (ns_raiseX e_NoDeed (hr.mono (by omega)) rfl (takes_of rfl rfl rfl rfl) (ne_op op_addA addN (ne_var 2) ne_int)))
    nss_nil)))))
abbrev s_copied : Stmt := topS 23
abbrev N_copied : List Str := ["stand"]
theorem sc_copied : FnScope N_copied ["stand"] (defScope s_copied) := ⟨rfl, rfl, rfl, by decide +kernel, rfl, by decide +kernel, by decide +kernel⟩
noncomputable def m_copied : MF := runD 1 (sRet (mTup (aCons (mCB (on1 (gList true)) (aCons (m2 gIx (mVar 0) (mC (.int 0))) aNil)) (aCons (mCB (on1 (gList true)) (aCons (m2 gIx (mVar 0) (mC (.int 1))) aNil)) aNil))))
theorem ok_copied (hB : Blts mg) (hG : Globs mg K) (h : DefAt K mg "copied" s_copied ["stand"]) : Cal P w K mg base "copied" 1 1 m_copied := by
  have hN := sc_copied.nd
  exact Cal.of (k := 0) h sc_copied fun f cdv A outer s H E hr hgd => (nss_one (ns_ret (ne_tup (na_cons (ne_callTy call_list_of listN (b_list hB) (na_cons (ne_ix (ne_var 0) ne_int) na_nil)) (na_cons (ne_callTy call_list_of listN (b_list hB) (na_cons (ne_ix (ne_var 0) ne_int) na_nil)) na_nil)))))
abbrev s_dancers_of : Stmt := topS 36
abbrev N_dancers_of : List Str := ["stand"]
theorem sc_dancers_of : FnScope N_dancers_of ["stand"] (defScope s_dancers_of) := ⟨rfl, rfl, rfl, by decide +kernel, rfl, by decide +kernel, by decide +kernel⟩
noncomputable def m_dancers_of : MF := runD 1 (sRet (m2 gSub (mCB (on1 gLen) (aCons (m2 gIx (mVar 0) (mC (.int 0))) aNil)) (mC (.int 1))))
theorem ok_dancers_of (hB : Blts mg) (hG : Globs mg K) (h : DefAt K mg "dancers_of" s_dancers_of ["stand"]) : Cal P w K mg base "dancers_of" 1 1 m_dancers_of := by
  have hN := sc_dancers_of.nd
  exact Cal.of (k := 0) h sc_dancers_of fun f cdv A outer s H E hr hgd => (nss_one (ns_ret (ne_op op_sub subN (ne_callB call_len lenN (b_len hB) (na_cons (ne_ix (ne_var 0) ne_int) na_nil)) ne_int)))
abbrev s_hands_by : Stmt := topS 37
abbrev N_hands_by : List Str := ["stand", "deed", "rights", "lefts", "word", "dancer", "ahead", "behind_it", "new"]
theorem sc_hands_by : FnScope N_hands_by ["stand", "deed"] (defScope s_hands_by) := ⟨rfl, rfl, rfl, by decide +kernel, rfl, by decide +kernel, by decide +kernel⟩
noncomputable def m_hands_by : MF := runD 9 (sSeq (sAsg (mVar 0) (gmSq 2 (gmCons (gmN 2) (gmCons (gmN 3) gmNil))))
  (sSeq (sAsg (mVar 1) (gmSq 2 (gmCons (gmN 4) (gmCons (gmN 5) gmNil))))
  (sSeq (sPar 6 7 (aCons (m2 gIx (mVar 3) (m2 gSub (mVar 5) (mC (.int 1)))) (aCons (m2 gIx (mVar 2) (mVar 5)) aNil)))
  (sSeq (sAsg (mIf (mT (m2 gEq (mVar 4) (mC k_GO_deeds))) (mTup (aCons (mVar 7) (aCons (mVar 6) aNil))) (mTup (aCons (mVar 5) (aCons (mVar 5) aNil)))) (gmN 8))
  (sRet (mLst true (aCons (mTup (aCons (mC k_RIGHT_deeds) (aCons (mVar 6) (aCons (mVar 6) (aCons (m2 gIx (mVar 8) (mC (.int 0))) aNil))))) (aCons (mTup (aCons (mC k_LEFT_deeds) (aCons (mVar 7) (aCons (m2 gSub (mVar 7) (mC (.int 1))) (aCons (m2 gIx (mVar 8) (mC (.int 1))) aNil))))) aNil))))))))
theorem ok_hands_by (hB : Blts mg) (hG : Globs mg K) (h : DefAt K mg "hands_by" s_hands_by ["stand", "deed"]) : Cal P w K mg base "hands_by" 1 2 m_hands_by := by
  have hN := sc_hands_by.nd
  exact Cal.of (k := 0) h sc_hands_by fun f cdv A outer s H E hr hgd => (nss_cons (ns_asg (ne_var 0) (ng_sq rfl (ngs_cons (ng_name (own := [2, 3]) 2 (by decide) hN rfl (.inl rfl)) (ngs_cons (ng_name (own := [2, 3]) 3 (by decide) hN rfl (.inl rfl)) ngs_nil))))
    (nss_cons (ns_asg (ne_var 1) (ng_sq rfl (ngs_cons (ng_name (own := [4, 5]) 4 (by decide) hN rfl (.inl rfl)) (ngs_cons (ng_name (own := [4, 5]) 5 (by decide) hN rfl (.inl rfl)) ngs_nil))))
    (nss_cons (ns_par 6 7 rfl hN rfl rfl (by decide) rfl rfl (na_cons (ne_ix (ne_var 3) (ne_op op_sub subN (ne_var 5) ne_int)) (na_cons (ne_ix (ne_var 2) (ne_var 5)) na_nil)) (by rfl))
    (nss_cons (ns_set 8 hN rfl (.inl rfl) (ne_if (nt_cmp (op_eqE hr.units) eqN (ne_var 4) (ne_glob (g_GO_deeds hG)) (nomark _)) (ne_tup (na_cons (ne_var 7) (na_cons (ne_var 6) na_nil))) (ne_tup (na_cons (ne_var 5) (na_cons (ne_var 5) na_nil)))))
    (nss_one (ns_ret (ne_lst (na_cons (ne_tup (na_cons (ne_glob (g_RIGHT_deeds hG)) (na_cons (ne_var 6) (na_cons (ne_var 6) (na_cons (ne_ix (ne_var 8) ne_int) na_nil))))) (na_cons (ne_tup (na_cons (ne_glob (g_LEFT_deeds hG)) (na_cons (ne_var 7) (na_cons (ne_op op_sub subN (ne_var 7) ne_int) (na_cons (ne_ix (ne_var 8) ne_int) na_nil))))) na_nil)))))))))
abbrev s_behind : Stmt := topS 38
abbrev N_behind : List Str := ["stand", "deeds", "found", "deed", "side", "who", "place", "new"]
theorem sc_behind : FnScope N_behind ["stand", "deeds"] (defScope s_behind) := ⟨rfl, rfl, rfl, by decide +kernel, rfl, by decide +kernel, by decide +kernel⟩
noncomputable def m_behind : MF := runD 8 (sSeq (sDrop (mF 1 m_need_stand (aCons (mVar 0) aNil)))
  (sSeq (sDrop (mF 2 m_need_deeds (aCons (mVar 1) (aCons (mF 1 m_dancers_of (aCons (mVar 0) aNil)) aNil))))
  (sSeq (sAsg (mF 1 m_copied (aCons (mVar 0) aNil)) (gmN 2))
  (sSeq (sFor (iLst (mVar 1)) (gmN 3)
  (sFor (iLst (mFz 2 (mF 2 m_hands_by (aCons (mVar 2) (aCons (mVar 3) aNil))))) (gmSq 4 (gmCons (gmN 4) (gmCons (gmN 5) (gmCons (gmN 6) (gmCons (gmN 7) gmNil)))))
  (sAsg (mVar 7) (gmSub (m2 gIx (mVar 2) (mCB (on1 gInt) (aCons (m2 gEq (mVar 4) (mC k_LEFT_deeds)) aNil))) (mVar 6)))))
  (sRet (mVar 2))))))
theorem ok_behind (hB : Blts mg) (hG : Globs mg K) (h : DefAt K mg "behind" s_behind ["stand", "deeds"]) (c_need_stand : Cal P w K mg base "need_stand" 3 1 m_need_stand) (c_need_deeds : Cal P w K mg base "need_deeds" 3 2 m_need_deeds) (c_copied : Cal P w K mg base "copied" 1 1 m_copied) (c_dancers_of : Cal P w K mg base "dancers_of" 1 1 m_dancers_of) (c_hands_by : Cal P w K mg base "hands_by" 1 2 m_hands_by) : Cal P w K mg base "behind" 4 2 m_behind := by
  have hN := sc_behind.nd
  exact Cal.of (k := 3) h sc_behind fun f cdv A outer s H E hr hgd => (nss_cons (ns_expr (ne_cal c_need_stand (hr.mono (by omega)) hgd pass_cx (na_cons (ne_var 0) na_nil)))
    (nss_cons (ns_expr (ne_cal c_need_deeds (hr.mono (by omega)) hgd pass_cx (na_cons (ne_var 1) (na_cons (ne_cal c_dancers_of (hr.mono (by omega)) hgd pass_cx (na_cons (ne_var 0) na_nil)) na_nil))))
    (nss_cons (ns_set 2 hN rfl (.inl rfl) (ne_cal c_copied (hr.mono (by omega)) hgd pass_cx (na_cons (ne_var 0) na_nil)))
    (nss_cons (ns_for own_cx rfl (ni_list (ne_var 1)) (ng_name (own := [3]) 3 (by decide) hN rfl (.inl rfl))
    (nss_one (ns_for own_cx rfl (ni_list (ne_fz 2 (ne_cal c_hands_by (hr.mono (by omega)) hgd pass_cx (na_cons (ne_var 2) (na_cons (ne_var 3) na_nil))))) (ng_sq rfl (ngs_cons (ng_name (own := [4, 5, 6, 7]) 4 (by decide) hN rfl (.inl rfl)) (ngs_cons (ng_name (own := [4, 5, 6, 7]) 5 (by decide) hN rfl (.inl rfl)) (ngs_cons (ng_name (own := [4, 5, 6, 7]) 6 (by decide) hN rfl (.inl rfl)) (ngs_cons (ng_name (own := [4, 5, 6, 7]) 7 (by decide) hN rfl (.inl rfl)) ngs_nil)))))
    (nss_one (ns_asg (ne_var 7) (ng_sub (own := []) (ne_ix (ne_var 2) (ne_callTy call_int3 intN (b_int hB) (na_cons (ne_cmp (op_eqE hr.units) eqN (ne_var 4) (ne_glob (g_LEFT_deeds hG)) (nomark _)) na_nil))) (ne_var 6)))))))
    (nss_one (ns_ret (ne_var 2)))))))
abbrev s_nexts : Stmt := topS 52
abbrev N_nexts : List Str := ["stand", "deed"]
theorem sc_nexts : FnScope N_nexts ["stand"] (defScope s_nexts) := ⟨rfl, rfl, rfl, by decide +kernel, rfl, by decide +kernel, by decide +kernel⟩
noncomputable def m_nexts : MF := runD 2 (sSeq (sDrop (mF 1 m_fewest (aCons (mVar 0) aNil)))
  (sRet (mLc true [1] (iLst (mFz 2 (mF 1 m_all_deeds (aCons (mVar 0) aNil)))) (gmN 1) tTrue (mTup (aCons (mVar 1) (aCons (mF 1 m_fewest (aCons (mFz 2 (mF 2 m_behind (aCons (mVar 0) (aCons (mLst false (aCons (mVar 1) aNil)) aNil)))) aNil)) aNil))))))
theorem ok_nexts (hB : Blts mg) (hG : Globs mg K) (h : DefAt K mg "nexts" s_nexts ["stand"]) (c_fewest : Cal P w K mg base "fewest" 5 1 m_fewest) (c_all_deeds : Cal P w K mg base "all_deeds" 1 1 m_all_deeds) (c_behind : Cal P w K mg base "behind" 4 2 m_behind) : Cal P w K mg base "nexts" 6 1 m_nexts := by
  have hN := sc_nexts.nd
  exact Cal.of (k := 5) h sc_nexts fun f cdv A outer s H E hr hgd => (nss_cons (ns_expr (ne_cal c_fewest (hr.mono (by omega)) hgd pass_cx (na_cons (ne_var 0) na_nil)))
    (nss_one (ns_ret (ne_lc (own := [("deed", 1)]) rfl hN (ni_list (ne_fz 2 (ne_cal c_all_deeds (hr.mono (by omega)) hgd pass_cx (na_cons (ne_var 0) na_nil)))) (blkOk_by (N := N_nexts) (sc := defScope s_nexts) (by decide +kernel)) (fun _ _ _ _ _ => (ng_name (own := [1]) 1 (by decide) hN rfl (.inl rfl))) (fun _ _ _ _ _ => nts_nil) (fun _ _ _ _ _ => (ne_tup (na_cons (ne_var 1) (na_cons (ne_cal c_fewest (hr.mono (by omega)) hgd passL (na_cons (ne_fz 2 (ne_cal c_behind (hr.mono (by omega)) hgd passL (na_cons (ne_var 0) (na_cons (ne_lst (na_cons (ne_var 1) na_nil)) na_nil)))) na_nil)) na_nil))))))))
abbrev s_forgotten : Stmt := topS 26
abbrev N_forgotten : List Str := ["stand", "border", "word"]
theorem sc_forgotten : FnScope N_forgotten ["stand"] (defScope s_forgotten) := ⟨rfl, rfl, rfl, by decide +kernel, rfl, by decide +kernel, by decide +kernel⟩
noncomputable def m_forgotten : MF := runD 3 (sRet (mLc true [1, 2] (iEn (aCons (mFz 2 (mF 1 m_words (aCons (mVar 0) aNil))) aNil)) (gmSq 2 (gmCons (gmN 1) (gmCons (gmN 2) gmNil))) (mT (m2 gEq (mVar 2) (mC k_FORGOTTEN_stands))) (mVar 1)))
theorem ok_forgotten (hB : Blts mg) (hG : Globs mg K) (h : DefAt K mg "forgotten" s_forgotten ["stand"]) (c_words : Cal P w K mg base "words" 4 1 m_words) : Cal P w K mg base "forgotten" 5 1 m_forgotten := by
  have hN := sc_forgotten.nd
  exact Cal.of (k := 4) h sc_forgotten fun f cdv A outer s H E hr hgd => (nss_one (ns_ret (ne_lc (own := [("border", 1), ("word", 2)]) rfl hN (ni_enum (b_enumerate hB) (na_cons (ne_fz 2 (ne_cal c_words (hr.mono (by omega)) hgd pass_cx (na_cons (ne_var 0) na_nil))) na_nil)) (blkOk_by (N := N_forgotten) (sc := defScope s_forgotten) (by decide +kernel)) (fun _ _ _ _ _ => (ng_sq rfl (ngs_cons (ng_name (own := [1, 2]) 1 (by decide) hN rfl (.inl rfl)) (ngs_cons (ng_name (own := [1, 2]) 2 (by decide) hN rfl (.inl rfl)) ngs_nil)))) (fun _ _ _ _ _ => (nts_one (nt_cmp (op_eqE hr.units) eqN (ne_var 2) (ne_glob (g_FORGOTTEN_stands hG)) (nomark _)))) (fun _ _ _ _ _ => (ne_var 1)))))
abbrev s_forgotten_ahead : Stmt := topS 51
abbrev N_forgotten_ahead : List Str := ["stand", "border"]
theorem sc_forgotten_ahead : FnScope N_forgotten_ahead ["stand"] (defScope s_forgotten_ahead) := ⟨rfl, rfl, rfl, by decide +kernel, rfl, by decide +kernel, by decide +kernel⟩
noncomputable def m_forgotten_ahead : MF := runD 2 (sRet (mDc [1] (iLst (mFz 2 (mF 1 m_forgotten (aCons (mVar 0) aNil)))) (gmN 1) tTrue (mVar 1) (mC (.bl true))))
theorem ok_forgotten_ahead (hB : Blts mg) (hG : Globs mg K) (h : DefAt K mg "forgotten_ahead" s_forgotten_ahead ["stand"]) (c_forgotten : Cal P w K mg base "forgotten" 5 1 m_forgotten) : Cal P w K mg base "forgotten_ahead" 6 1 m_forgotten_ahead := by
  have hN := sc_forgotten_ahead.nd
  exact Cal.of (k := 5) h sc_forgotten_ahead fun f cdv A outer s H E hr hgd => (nss_one (ns_ret (ne_dc (own := [("border", 1)]) rfl hN (ni_list (ne_fz 2 (ne_cal c_forgotten (hr.mono (by omega)) hgd pass_cx (na_cons (ne_var 0) na_nil)))) (blkOk_by (N := N_forgotten_ahead) (sc := defScope s_forgotten_ahead) (by decide +kernel)) (fun _ _ _ _ _ => (ng_name (own := [1]) 1 (by decide) hN rfl (.inl rfl))) (fun _ _ _ _ _ => nts_nil) (fun _ _ _ _ _ => (ne_var 1)) (fun _ _ _ _ _ => ne_bl))))
abbrev s_newly_forgotten : Stmt := topS 50
abbrev N_newly_forgotten : List Str := ["stand", "deed", "ahead", "border"]
theorem sc_newly_forgotten : FnScope N_newly_forgotten ["stand", "deed", "ahead"] (defScope s_newly_forgotten) := ⟨rfl, rfl, rfl, by decide +kernel, rfl, by decide +kernel, by decide +kernel⟩
noncomputable def m_newly_forgotten : MF := runD 4 (sRet (mLc true [3] (iLst (mFz 2 (mF 1 m_forgotten (aCons (mFz 2 (mF 2 m_behind (aCons (mVar 0) (aCons (mLst false (aCons (mVar 1) aNil)) aNil)))) aNil)))) (gmN 3) (mT (mDInK true (mVar 3) (mVar 2))) (mVar 3)))
theorem ok_newly_forgotten (hB : Blts mg) (hG : Globs mg K) (h : DefAt K mg "newly_forgotten" s_newly_forgotten ["stand", "deed", "ahead"]) (c_forgotten : Cal P w K mg base "forgotten" 5 1 m_forgotten) (c_behind : Cal P w K mg base "behind" 4 2 m_behind) : Cal P w K mg base "newly_forgotten" 6 3 m_newly_forgotten := by
  have hN := sc_newly_forgotten.nd
  exact Cal.of (k := 5) h sc_newly_forgotten fun f cdv A outer s H E hr hgd => (nss_one (ns_ret (ne_lc (own := [("border", 3)]) rfl hN (ni_list (ne_fz 2 (ne_cal c_forgotten (hr.mono (by omega)) hgd pass_cx (na_cons (ne_fz 2 (ne_cal c_behind (hr.mono (by omega)) hgd pass_cx (na_cons (ne_var 0) (na_cons (ne_lst (na_cons (ne_var 1) na_nil)) na_nil)))) na_nil)))) (blkOk_by (N := N_newly_forgotten) (sc := defScope s_newly_forgotten) (by decide +kernel)) (fun _ _ _ _ _ => (ng_name (own := [3]) 3 (by decide) hN rfl (.inl rfl))) (fun _ _ _ _ _ => (nts_one (nt_dninK hr.units (ne_var 3) (ne_var 2)))) (fun _ _ _ _ _ => (ne_var 3)))))
abbrev s_forgetting : Stmt := topS 54
abbrev N_forgetting : List Str := ["stand", "ahead", "deed"]
theorem sc_forgetting : FnScope N_forgetting ["stand"] (defScope s_forgetting) := ⟨rfl, rfl, rfl, by decide +kernel, rfl, by decide +kernel, by decide +kernel⟩
noncomputable def m_forgetting : MF := runD 3 (sSeq (sAsg (mF 1 m_forgotten_ahead (aCons (mVar 0) aNil)) (gmN 1))
  (sRet (mLc true [2] (iLst (mFz 2 (mF 1 m_all_deeds (aCons (mVar 0) aNil)))) (gmN 2) (mT (m2 gNe (mFz 2 (mF 3 m_newly_forgotten (aCons (mVar 0) (aCons (mVar 2) (aCons (mVar 1) aNil))))) (mLst false aNil))) (mVar 2))))
theorem ok_forgetting (hB : Blts mg) (hG : Globs mg K) (h : DefAt K mg "forgetting" s_forgetting ["stand"]) (c_forgotten_ahead : Cal P w K mg base "forgotten_ahead" 6 1 m_forgotten_ahead) (c_all_deeds : Cal P w K mg base "all_deeds" 1 1 m_all_deeds) (c_newly_forgotten : Cal P w K mg base "newly_forgotten" 6 3 m_newly_forgotten) : Cal P w K mg base "forgetting" 7 1 m_forgetting := by
  have hN := sc_forgetting.nd
  exact Cal.of (k := 6) h sc_forgetting fun f cdv A outer s H E hr hgd => (nss_cons (ns_set 1 hN rfl (.inr rfl) (ne_cal c_forgotten_ahead (hr.mono (by omega)) hgd pass_cx (na_cons (ne_var 0) na_nil)))
    (nss_one (ns_ret (ne_lc (own := [("deed", 2)]) rfl hN (ni_list (ne_fz 2 (ne_cal c_all_deeds (hr.mono (by omega)) hgd pass_cx (na_cons (ne_var 0) na_nil)))) (blkOk_by (N := N_forgetting) (sc := defScope s_forgetting) (by decide +kernel)) (fun _ _ _ _ _ => (ng_name (own := [2]) 2 (by decide) hN rfl (.inl rfl))) (fun _ _ _ _ _ => (nts_one (nt_cmp (op_neE hr.units) neN (ne_fz 2 (ne_cal c_newly_forgotten (hr.mono (by omega)) hgd passL (na_cons (ne_var 0) (na_cons (ne_var 2) (na_cons (ne_var 1) na_nil))))) (ne_lst na_nil) (nomark _)))) (fun _ _ _ _ _ => (ne_var 2))))))
abbrev s_changed : Stmt := topS 39
abbrev N_changed : List Str := ["stand", "deed", "found", "side", "who", "place", "new", "old"]
theorem sc_changed : FnScope N_changed ["stand", "deed"] (defScope s_changed) := ⟨rfl, rfl, rfl, by decide +kernel, rfl, by decide +kernel, by decide +kernel⟩
noncomputable def m_changed : MF := runD 8 (sSeq (sDrop (mF 1 m_need_stand (aCons (mVar 0) aNil)))
  (sSeq (sDrop (mF 2 m_need_deeds (aCons (mLst false (aCons (mVar 1) aNil)) (aCons (mF 1 m_dancers_of (aCons (mVar 0) aNil)) aNil))))
  (sSeq (sAsg (mLst true aNil) (gmN 2))
  (sSeq (sFor (iLst (mFz 2 (mF 2 m_hands_by (aCons (mVar 0) (aCons (mVar 1) aNil))))) (gmSq 4 (gmCons (gmN 3) (gmCons (gmN 4) (gmCons (gmN 5) (gmCons (gmN 6) gmNil)))))
  (sSeq (sAsg (m2 gIx (m2 gIx (mVar 0) (mCB (on1 gInt) (aCons (m2 gEq (mVar 3) (mC k_LEFT_deeds)) aNil))) (mVar 5)) (gmN 7))
  (sIf (mT (m2 gNe (mVar 7) (mVar 6)))
  (sDrop (mMt isL gAppend (mVar 2) (aCons (mTup (aCons (mVar 3) (aCons (mVar 4) (aCons (mVar 7) (aCons (mVar 6) aNil))))) aNil)))
  sNil)))
  (sRet (mVar 2))))))
theorem ok_changed (hB : Blts mg) (hG : Globs mg K) (h : DefAt K mg "changed" s_changed ["stand", "deed"]) (c_need_stand : Cal P w K mg base "need_stand" 3 1 m_need_stand) (c_need_deeds : Cal P w K mg base "need_deeds" 3 2 m_need_deeds) (c_hands_by : Cal P w K mg base "hands_by" 1 2 m_hands_by) (c_dancers_of : Cal P w K mg base "dancers_of" 1 1 m_dancers_of) : Cal P w K mg base "changed" 4 2 m_changed := by
  have hN := sc_changed.nd
  exact Cal.of (k := 3) h sc_changed fun f cdv A outer s H E hr hgd => (nss_cons (ns_expr (ne_cal c_need_stand (hr.mono (by omega)) hgd pass_cx (na_cons (ne_var 0) na_nil)))
    (nss_cons (ns_expr (ne_cal c_need_deeds (hr.mono (by omega)) hgd pass_cx (na_cons (ne_lst (na_cons (ne_var 1) na_nil)) (na_cons (ne_cal c_dancers_of (hr.mono (by omega)) hgd pass_cx (na_cons (ne_var 0) na_nil)) na_nil))))
    (nss_cons (ns_set 2 hN rfl (.inl rfl) (ne_lst na_nil))
    (nss_cons (ns_for own_cx rfl (ni_list (ne_fz 2 (ne_cal c_hands_by (hr.mono (by omega)) hgd pass_cx (na_cons (ne_var 0) (na_cons (ne_var 1) na_nil))))) (ng_sq rfl (ngs_cons (ng_name (own := [3, 4, 5, 6]) 3 (by decide) hN rfl (.inl rfl)) (ngs_cons (ng_name (own := [3, 4, 5, 6]) 4 (by decide) hN rfl (.inl rfl)) (ngs_cons (ng_name (own := [3, 4, 5, 6]) 5 (by decide) hN rfl (.inl rfl)) (ngs_cons (ng_name (own := [3, 4, 5, 6]) 6 (by decide) hN rfl (.inl rfl)) ngs_nil)))))
    (nss_cons (ns_set 7 hN rfl (.inl rfl) (ne_ix (ne_ix (ne_var 0) (ne_callTy call_int3 intN (b_int hB) (na_cons (ne_cmp (op_eqE hr.units) eqN (ne_var 3) (ne_glob (g_LEFT_deeds hG)) (nomark _)) na_nil))) (ne_var 5)))
    (nss_one (ns_if (nt_cmp (op_neE hr.units) neN (ne_var 7) (ne_var 6) (nomark _))
    (nss_one (ns_expr (ne_mt PySem.F.plainAttrs_list PySem.F.slot_list_append PySem.F.type_list_append mt_append chk_list appendN (ne_var 2) (na_cons (ne_tup (na_cons (ne_var 3) (na_cons (ne_var 4) (na_cons (ne_var 7) (na_cons (ne_var 6) na_nil))))) na_nil))))
    nss_nil))))
    (nss_one (ns_ret (ne_var 2)))))))
abbrev s_idle : Stmt := topS 55
abbrev N_idle : List Str := ["stand", "deed"]
theorem sc_idle : FnScope N_idle ["stand"] (defScope s_idle) := ⟨rfl, rfl, rfl, by decide +kernel, rfl, by decide +kernel, by decide +kernel⟩
noncomputable def m_idle : MF := runD 2 (sSeq (sDrop (mF 1 m_forgotten (aCons (mVar 0) aNil)))
  (sRet (mLc true [1] (iLst (mFz 2 (mF 1 m_all_deeds (aCons (mVar 0) aNil)))) (gmN 1) (mT (m2 gEq (mFz 2 (mF 2 m_changed (aCons (mVar 0) (aCons (mVar 1) aNil)))) (mLst false aNil))) (mVar 1))))
theorem ok_idle (hB : Blts mg) (hG : Globs mg K) (h : DefAt K mg "idle" s_idle ["stand"]) (c_forgotten : Cal P w K mg base "forgotten" 5 1 m_forgotten) (c_all_deeds : Cal P w K mg base "all_deeds" 1 1 m_all_deeds) (c_changed : Cal P w K mg base "changed" 4 2 m_changed) : Cal P w K mg base "idle" 6 1 m_idle := by
  have hN := sc_idle.nd
  exact Cal.of (k := 5) h sc_idle fun f cdv A outer s H E hr hgd => (nss_cons (ns_expr (ne_cal c_forgotten (hr.mono (by omega)) hgd pass_cx (na_cons (ne_var 0) na_nil)))
    (nss_one (ns_ret (ne_lc (own := [("deed", 1)]) rfl hN (ni_list (ne_fz 2 (ne_cal c_all_deeds (hr.mono (by omega)) hgd pass_cx (na_cons (ne_var 0) na_nil)))) (blkOk_by (N := N_idle) (sc := defScope s_idle) (by decide +kernel)) (fun _ _ _ _ _ => (ng_name (own := [1]) 1 (by decide) hN rfl (.inl rfl))) (fun _ _ _ _ _ => (nts_one (nt_cmp (op_eqE hr.units) eqN (ne_fz 2 (ne_cal c_changed (hr.mono (by omega)) hgd passL (na_cons (ne_var 0) (na_cons (ne_var 1) na_nil)))) (ne_lst na_nil) (nomark _)))) (fun _ _ _ _ _ => (ne_var 1))))))
abbrev s_forgets : Stmt := topS 53
abbrev N_forgets : List Str := ["stand", "deed"]
theorem sc_forgets : FnScope N_forgets ["stand", "deed"] (defScope s_forgets) := ⟨rfl, rfl, rfl, by decide +kernel, rfl, by decide +kernel, by decide +kernel⟩
noncomputable def m_forgets : MF := runD 2 (sRet (mF 3 m_newly_forgotten (aCons (mVar 0) (aCons (mVar 1) (aCons (mF 1 m_forgotten_ahead (aCons (mVar 0) aNil)) aNil)))))
theorem ok_forgets (hB : Blts mg) (hG : Globs mg K) (h : DefAt K mg "forgets" s_forgets ["stand", "deed"]) (c_newly_forgotten : Cal P w K mg base "newly_forgotten" 6 3 m_newly_forgotten) (c_forgotten_ahead : Cal P w K mg base "forgotten_ahead" 6 1 m_forgotten_ahead) : Cal P w K mg base "forgets" 7 2 m_forgets := by
  have hN := sc_forgets.nd
  exact Cal.of (k := 6) h sc_forgets fun f cdv A outer s H E hr hgd => (nss_one (ns_ret (ne_cal c_newly_forgotten (hr.mono (by omega)) hgd pass_cx (na_cons (ne_var 0) (na_cons (ne_var 1) (na_cons (ne_cal c_forgotten_ahead (hr.mono (by omega)) hgd pass_cx (na_cons (ne_var 0) na_nil)) na_nil))))))
abbrev s__law_word : Stmt := topS 66
abbrev N__law_word : List Str := ["_law_e", "_law_some", "_law_words_of"]
theorem sc__law_word : FnScope N__law_word ["_law_e"] (defScope s__law_word) := ⟨rfl, rfl, rfl, by decide +kernel, rfl, by decide +kernel, by decide +kernel⟩
noncomputable def m__law_word : MF := runD 3 (sSeq (sAsg (mLst true (aCons (m1 (gIsOwn errTb "NoStand") (mVar 0)) (aCons (m1 (gIsOwn errTb "NoNumber") (mVar 0)) (aCons (m1 (gIsOwn errTb "NoOrder") (mVar 0)) (aCons (m1 (gIsOwn errTb "NoBorder") (mVar 0)) aNil))))) (gmN 1))
  (sSeq (sAsg (m2 (gAdd true) (mVar 1) (mLst false (aCons (m1 (gIsOwn errTb "Nothing") (mVar 0)) (aCons (m1 (gIsOwn errTb "NoName") (mVar 0)) (aCons (m1 (gIsOwn errTb "Taken") (mVar 0)) (aCons (m1 (gIsOwn errTb "NoForm") (mVar 0)) aNil)))))) (gmN 1))
  (sSeq (sAsg (m2 (gAdd true) (mVar 1) (mLst false (aCons (m1 (gIsOwn errTb "NoDeed") (mVar 0)) (aCons (m1 (gIsOwn errTb "Forgotten") (mVar 0)) (aCons (m1 (gIsOwn errTb "NoDancer") (mVar 0)) (aCons (m1 (gIsOwn errTb "TooMany") (mVar 0)) aNil)))))) (gmN 1))
  (sSeq (sDrop (mMt isL gAppend (mVar 1) (aCons (m1 (gIsOwn errTb "NoText") (mVar 0)) aNil)))
  (sSeq (sAsg (mLst false (aCons (mC (.str "stand")) (aCons (mC (.str "number")) (aCons (mC (.str "order")) (aCons (mC (.str "border")) (aCons (mC (.str "nothing")) (aCons (mC (.str "name")) (aCons (mC (.str "taken")) (aCons (mC (.str "form")) (aCons (mC (.str "deed")) (aCons (mC (.str "forgotten")) aNil))))))))))) (gmN 2))
  (sSeq (sAsg (m2 (gAdd false) (mVar 2) (mLst false (aCons (mC (.str "dancer")) (aCons (mC (.str "many")) (aCons (mC (.str "text")) aNil))))) (gmN 2))
  (sSeq (sIf (tOrM (mT (m2 gNe (mMt isL gCountB (mVar 1) (aCons (mC (.bl true)) aNil)) (mC (.int 1)))) (tNotM (mT (m1 (gIsOwn errTb "ValueError") (mVar 0)))))
  (sRet (mC (.str "odd")))
  sNil)
  (sRet (m2 gIx (mVar 2) (mMt isL gIndex (mVar 1) (aCons (mC (.bl true)) aNil)))))))))))
theorem ok__law_word (hB : Blts mg) (hG : Globs mg K) (h : DefAt K mg "_law_word" s__law_word ["_law_e"]) (o_NoStand : OwnK K mg errTb "NoStand") (o_E : ∀ c as, errTb.lookup c = some as → ∀ C : Addr, PySem.W.nsIn K mainGlobals c = some (some (.ref C)) → ExcC K C) (o_NoNumber : OwnK K mg errTb "NoNumber") (o_NoOrder : OwnK K mg errTb "NoOrder") (o_NoBorder : OwnK K mg errTb "NoBorder") (o_Nothing : OwnK K mg errTb "Nothing") (o_NoName : OwnK K mg errTb "NoName") (o_Taken : OwnK K mg errTb "Taken") (o_NoForm : OwnK K mg errTb "NoForm") (o_NoDeed : OwnK K mg errTb "NoDeed") (o_Forgotten : OwnK K mg errTb "Forgotten") (o_NoDancer : OwnK K mg errTb "NoDancer") (o_TooMany : OwnK K mg errTb "TooMany") (o_NoText : OwnK K mg errTb "NoText") (o_ValueError : OwnK K mg errTb "ValueError") : Cal P w K mg base "_law_word" 1 1 m__law_word := by
  have hN := sc__law_word.nd
  exact Cal.of (k := 0) h sc__law_word fun f cdv A outer s H E hr hgd => (nss_cons (ns_set 1 hN rfl (.inl rfl) (ne_lst (na_cons (ne_isOwnX (ownX_of o_E o_NoStand) (b_isinstance hB) (ne_var 0)) (na_cons (ne_isOwnX (ownX_of o_E o_NoNumber) (b_isinstance hB) (ne_var 0)) (na_cons (ne_isOwnX (ownX_of o_E o_NoOrder) (b_isinstance hB) (ne_var 0)) (na_cons (ne_isOwnX (ownX_of o_E o_NoBorder) (b_isinstance hB) (ne_var 0)) na_nil))))))
    (nss_cons (ns_set 1 hN rfl (.inl rfl) (ne_op op_addA addN (ne_var 1) (ne_lst (na_cons (ne_isOwnX (ownX_of o_E o_Nothing) (b_isinstance hB) (ne_var 0)) (na_cons (ne_isOwnX (ownX_of o_E o_NoName) (b_isinstance hB) (ne_var 0)) (na_cons (ne_isOwnX (ownX_of o_E o_Taken) (b_isinstance hB) (ne_var 0)) (na_cons (ne_isOwnX (ownX_of o_E o_NoForm) (b_isinstance hB) (ne_var 0)) na_nil)))))))
    (nss_cons (ns_set 1 hN rfl (.inl rfl) (ne_op op_addA addN (ne_var 1) (ne_lst (na_cons (ne_isOwnX (ownX_of o_E o_NoDeed) (b_isinstance hB) (ne_var 0)) (na_cons (ne_isOwnX (ownX_of o_E o_Forgotten) (b_isinstance hB) (ne_var 0)) (na_cons (ne_isOwnX (ownX_of o_E o_NoDancer) (b_isinstance hB) (ne_var 0)) (na_cons (ne_isOwnX (ownX_of o_E o_TooMany) (b_isinstance hB) (ne_var 0)) na_nil)))))))
    (nss_cons (ns_expr (ne_mt PySem.F.plainAttrs_list PySem.F.slot_list_append PySem.F.type_list_append mt_append chk_list appendN (ne_var 1) (na_cons (ne_isOwnX (ownX_of o_E o_NoText) (b_isinstance hB) (ne_var 0)) na_nil)))
    (nss_cons (ns_set 2 hN rfl (.inl rfl) (ne_lst (na_cons ne_str (na_cons ne_str (na_cons ne_str (na_cons ne_str (na_cons ne_str (na_cons ne_str (na_cons ne_str (na_cons ne_str (na_cons ne_str (na_cons ne_str na_nil))))))))))))
    (nss_cons (ns_set 2 hN rfl (.inl rfl) (ne_op op_addA addN (ne_var 2) (ne_lst (na_cons ne_str (na_cons ne_str (na_cons ne_str na_nil))))))
    (nss_cons (ns_if (nt_w (nw_or (nt_cmp (op_neE hr.units) neN (ne_mt PySem.F.plainAttrs_list PySem.F.slot_list_count PySem.F.type_list_count (mt_countB hr.units) chk_list countBN (ne_var 1) (na_cons ne_bl na_nil)) ne_int (nomark _)) (nw_or1 (nt_not (nt_val (ne_isOwnX (ownX_of o_E o_ValueError) (b_isinstance hB) (ne_var 0)))))))
    (nss_one (ns_ret ne_str))
    nss_nil)
    (nss_one (ns_ret (ne_ix (ne_var 2) (ne_mt PySem.F.plainAttrs_list PySem.F.slot_list_index PySem.F.type_list_index mt_index chk_list indexN (ne_var 1) (na_cons ne_bl na_nil))))))))))))
theorem okQ__law_word (hB : Blts mg) (hG : Globs mg K) (h : DefAt K mg "_law_word" s__law_word ["_law_e"]) (o_NoStand : OwnK K mg errTb "NoStand") (o_E : ∀ c as, errTb.lookup c = some as → ∀ C : Addr, PySem.W.nsIn K mainGlobals c = some (some (.ref C)) → ExcC K C) (o_NoNumber : OwnK K mg errTb "NoNumber") (o_NoOrder : OwnK K mg errTb "NoOrder") (o_NoBorder : OwnK K mg errTb "NoBorder") (o_Nothing : OwnK K mg errTb "Nothing") (o_NoName : OwnK K mg errTb "NoName") (o_Taken : OwnK K mg errTb "Taken") (o_NoForm : OwnK K mg errTb "NoForm") (o_NoDeed : OwnK K mg errTb "NoDeed") (o_Forgotten : OwnK K mg errTb "Forgotten") (o_NoDancer : OwnK K mg errTb "NoDancer") (o_TooMany : OwnK K mg errTb "TooMany") (o_NoText : OwnK K mg errTb "NoText") (o_ValueError : OwnK K mg errTb "ValueError") : CalQ P w K mg base "_law_word" 1 1 m__law_word := by
  have hN := sc__law_word.nd
  exact CalQ.of (k := 0) h sc__law_word fun f cdv A outer s H E hr => (nss_cons (ns_set 1 hN rfl (.inl rfl) (ne_lst (na_cons (ne_isOwnX (ownX_of o_E o_NoStand) (b_isinstance hB) (ne_var 0)) (na_cons (ne_isOwnX (ownX_of o_E o_NoNumber) (b_isinstance hB) (ne_var 0)) (na_cons (ne_isOwnX (ownX_of o_E o_NoOrder) (b_isinstance hB) (ne_var 0)) (na_cons (ne_isOwnX (ownX_of o_E o_NoBorder) (b_isinstance hB) (ne_var 0)) na_nil))))))
    (nss_cons (ns_set 1 hN rfl (.inl rfl) (ne_op op_addA addN (ne_var 1) (ne_lst (na_cons (ne_isOwnX (ownX_of o_E o_Nothing) (b_isinstance hB) (ne_var 0)) (na_cons (ne_isOwnX (ownX_of o_E o_NoName) (b_isinstance hB) (ne_var 0)) (na_cons (ne_isOwnX (ownX_of o_E o_Taken) (b_isinstance hB) (ne_var 0)) (na_cons (ne_isOwnX (ownX_of o_E o_NoForm) (b_isinstance hB) (ne_var 0)) na_nil)))))))
    (nss_cons (ns_set 1 hN rfl (.inl rfl) (ne_op op_addA addN (ne_var 1) (ne_lst (na_cons (ne_isOwnX (ownX_of o_E o_NoDeed) (b_isinstance hB) (ne_var 0)) (na_cons (ne_isOwnX (ownX_of o_E o_Forgotten) (b_isinstance hB) (ne_var 0)) (na_cons (ne_isOwnX (ownX_of o_E o_NoDancer) (b_isinstance hB) (ne_var 0)) (na_cons (ne_isOwnX (ownX_of o_E o_TooMany) (b_isinstance hB) (ne_var 0)) na_nil)))))))
    (nss_cons (ns_expr (ne_mt PySem.F.plainAttrs_list PySem.F.slot_list_append PySem.F.type_list_append mt_append chk_list appendN (ne_var 1) (na_cons (ne_isOwnX (ownX_of o_E o_NoText) (b_isinstance hB) (ne_var 0)) na_nil)))
    (nss_cons (ns_set 2 hN rfl (.inl rfl) (ne_lst (na_cons ne_str (na_cons ne_str (na_cons ne_str (na_cons ne_str (na_cons ne_str (na_cons ne_str (na_cons ne_str (na_cons ne_str (na_cons ne_str (na_cons ne_str na_nil))))))))))))
    (nss_cons (ns_set 2 hN rfl (.inl rfl) (ne_op op_addA addN (ne_var 2) (ne_lst (na_cons ne_str (na_cons ne_str (na_cons ne_str na_nil))))))
    (nss_cons (ns_if (nt_w (nw_or (nt_cmp (op_neE hr.units) neN (ne_mt PySem.F.plainAttrs_list PySem.F.slot_list_count PySem.F.type_list_count (mt_countB hr.units) chk_list countBN (ne_var 1) (na_cons ne_bl na_nil)) ne_int (nomark _)) (nw_or1 (nt_not (nt_val (ne_isOwnX (ownX_of o_E o_ValueError) (b_isinstance hB) (ne_var 0)))))))
    (nss_one (ns_ret ne_str))
    nss_nil)
    (nss_one (ns_ret (ne_ix (ne_var 2) (ne_mt PySem.F.plainAttrs_list PySem.F.slot_list_index PySem.F.type_list_index mt_index chk_list indexN (ne_var 1) (na_cons ne_bl na_nil))))))))))))
abbrev s__law_asked : Stmt := topS 69
abbrev N__law_asked : List Str := ["_law_door", "_law_here", "_law_one_deed", "_law_found", "_law_e"]
theorem sc__law_asked : FnScope N__law_asked ["_law_door", "_law_here", "_law_one_deed"] (defScope s__law_asked) := ⟨rfl, rfl, rfl, by decide +kernel, rfl, by decide +kernel, by decide +kernel⟩
noncomputable def m__law_asked : MF := runD 5 (sSeq (sAsg (mC (.str "none")) (gmN 3))
  (sSeq (sTry (sIf (mT (m2 gLt (mVar 0) (mC (.int 3)))) (sDrop (mDoor 1 [m_nexts, m_forgetting, m_idle] (mVar 0) (aCons (mVar 1) aNil))) (sDrop (mF 2 m_forgets (aCons (mVar 1) (aCons (mVar 2) aNil))))) (hmHots errTb ["NoStand", "NoDeed"] [("NoDeed", 4, (sAsg (mTup (aCons (mF 1 m__law_word (aCons (mVar 4) aNil)) (aCons (m1 (gXF errTb "at") (mVar 4)) aNil))) (gmN 3))), ("RingError", 4, (sAsg (mF 1 m__law_word (aCons (mVar 4) aNil)) (gmN 3)))]))
  (sRet (mVar 3))))
theorem ok__law_asked (hB : Blts mg) (hG : Globs mg K) (h : DefAt K mg "_law_asked" s__law_asked ["_law_door", "_law_here", "_law_one_deed"]) (c_nexts : Cal P w K mg base "nexts" 6 1 m_nexts) (c_forgetting : Cal P w K mg base "forgetting" 7 1 m_forgetting) (c_idle : Cal P w K mg base "idle" 6 1 m_idle) (c_forgets : Cal P w K mg base "forgets" 7 2 m_forgets) (c__law_word : Cal P w K mg base "_law_word" 1 1 m__law_word) (em_RingError : ExmT K mg errTb "RingError") (em_NoDeed : ExmT K mg errTb "NoDeed") (o_E : ∀ c as, errTb.lookup c = some as → ∀ C : Addr, PySem.W.nsIn K mainGlobals c = some (some (.ref C)) → ExcC K C) (n_at : NoFld K errTb "at") (kp_RingError : KeepX K mg "RingError" ["NoStand", "NoDeed"]) (cQ__law_word : CalQ P w K mg base "_law_word" 1 1 m__law_word) : Cal P w K mg base "_law_asked" 8 3 m__law_asked := by
  have hN := sc__law_asked.nd
  exact Cal.of (k := 7) h sc__law_asked fun f cdv A outer s H E hr hgd => (nss_cons (ns_set 3 hN rfl (.inl rfl) ne_str)
    (nss_cons (ns_try_hots ["NoStand", "NoDeed"] kp_RingError rfl rfl hN rfl (fun W pn xe tk => (nssx_one (nsx_if (nt_cmp op_lt ltN (ne_var 0) ne_int (nomark _)) (nssx_one (nsx_expr (nex_door (k := 7) (.cons (c_nexts.mono (by omega)) (.cons (c_forgetting.mono (by omega)) (.cons (c_idle.mono (by omega)) .nil))) (hr.mono (by omega)) hgd tk (ne_var 0) (na_cons (ne_var 1) na_nil)))) (nssx_one (nsx_expr (nex_cal c_forgets (hr.mono (by omega)) hgd tk (na_cons (ne_var 1) (na_cons (ne_var 2) na_nil)))))))) (.cons (i := 4) em_NoDeed (fun a pn => (nss_one (ns_set 3 hN rfl (.inl rfl) (ne_tup (na_cons (ne_calQ cQ__law_word (roomQ hr (by omega)) pass_suite (na_cons (ne_var 4) na_nil)) (na_cons (ne_excF o_E n_at (ne_var 4)) na_nil)))))) (.cons (i := 4) em_RingError (fun a pn => (nss_one (ns_set 3 hN rfl (.inl rfl) (ne_calQ cQ__law_word (roomQ hr (by omega)) pass_suite (na_cons (ne_var 4) na_nil))))) .nil)))
    (nss_one (ns_ret (ne_var 3)))))
abbrev s_law : Stmt := topS 70
abbrev N_law : List Str := ["_law_script", "_law_k", "_law_jar_here", "_law_spin", "_law_size_here", "_law_here", "_law_bad", "_law_odd", "_law_good", "_law_kept", "_law_told", "_law_door"]
theorem sc_law : FnScope N_law ["_law_script"] (defScope s_law) := ⟨rfl, rfl, rfl, by decide +kernel, rfl, by decide +kernel, by decide +kernel⟩
noncomputable def m_law : MF := runD 12 (sSeq (sFor (iRg1 (aCons (mCB (on2 gMax2) (aCons (mC (.int 1)) (aCons (mCB (on2 gMin2) (aCons (mC (.int 6)) (aCons (mCB (on1 gLen) (aCons (mVar 0) aNil)) aNil))) aNil))) aNil)) (gmN 1)
  (sGc [1, 2, 3] (sSeq (sAsg (mF 2 m__law_jar (aCons (mVar 0) (aCons (mVar 1) aNil))) (gmN 2))
  (sFor (iRg1 (aCons (mC (.int 4)) aNil)) (gmN 3)
  (sGc [3, 4, 5, 6, 7, 8, 9, 10] (sSeq (sAsg (mF 3 m__law_size (aCons (mVar 2) (aCons (mVar 0) (aCons (mC (.int 6)) aNil)))) (gmN 4))
  (sSeq (sAsg (mFz 2 (mF 2 m__law_hands (aCons (mVar 2) (aCons (mVar 4) aNil)))) (gmN 5))
  (sSeq (sAsg (mTup (aCons (mFz 2 (mF 3 m__law_no_stand (aCons (mVar 2) (aCons (mVar 5) (aCons (mVar 4) aNil))))) (aCons (mFz 2 (mF 2 m__law_no_deed (aCons (mVar 2) (aCons (mVar 4) aNil)))) aNil))) (gmSq 2 (gmCons (gmN 6) (gmCons (gmN 7) gmNil))))
  (sSeq (sAsg (mTup (aCons (mC (.str "go")) (aCons (m2 (gAdd false) (mC (.int 1)) (mF 2 m__law_dip (aCons (mVar 2) (aCons (mVar 4) aNil)))) aNil))) (gmN 8))
  (sSeq (sAsg (mCB (on1 gReprE) (aCons (mLst false (aCons (mVar 5) (aCons (mVar 6) (aCons (mVar 7) aNil)))) aNil)) (gmN 9))
  (sSeq (sAsg (mLc false [11] (iRg1 (aCons (mC (.int 4)) aNil)) (gmN 11) tTrue (mFz 2 (mF 3 m__law_asked (aCons (mVar 11) (aCons (mVar 6) (aCons (m2 gIx (mLst false (aCons (mVar 8) (aCons (mVar 7) aNil))) (mF 2 m__law_dip (aCons (mVar 2) (aCons (mC (.int 2)) aNil)))) aNil)))))) (gmN 10))
  (sSeq (sAsg (m2 (gAdd false) (m2 (gAdd false) (mVar 10) (mLc false [11] (iRg1 (aCons (mC (.int 4)) aNil)) (gmN 11) tTrue (mFz 2 (mF 3 m__law_asked (aCons (mVar 11) (aCons (mVar 5) (aCons (mVar 8) aNil))))))) (mLst false (aCons (mFz 2 (mF 3 m__law_asked (aCons (mC (.int 3)) (aCons (mVar 5) (aCons (mVar 7) aNil))))) aNil))) (gmN 10))
  (sIf (tOrM (mT (m2 gNe (mVar 10) (m2 (gAdd false) (m2 (gAdd false) (mRep false (aCons (mC (.str "stand")) aNil) (mC (.int 4))) (mRep false (aCons (mC (.str "none")) aNil) (mC (.int 4)))) (mLst false (aCons (mTup (aCons (mC (.str "deed")) (aCons (mC (.int 1)) aNil))) aNil))))) (mT (m2 gNe (mCB (on1 gReprE) (aCons (mLst false (aCons (mVar 5) (aCons (mVar 6) (aCons (mVar 7) aNil)))) aNil)) (mVar 9))))
  (sRet (mC (.bl false)))
  sNil)))))))))))))
  (sRet (mC (.bl true))))
theorem ok_law {f : Addr} {fd : FuncData} (hB : Blts mg) (hG : Globs mg K) (h : Fun K "law" "law" s_law f fd) (c__law_jar : Cal P w K mg base "_law_jar" 1 2 m__law_jar) (c__law_size : Cal P w K mg base "_law_size" 2 3 m__law_size) (c__law_hands : Cal P w K mg base "_law_hands" 2 2 m__law_hands) (c__law_no_stand : Cal P w K mg base "_law_no_stand" 2 3 m__law_no_stand) (c__law_no_deed : Cal P w K mg base "_law_no_deed" 2 2 m__law_no_deed) (c__law_asked : Cal P w K mg base "_law_asked" 8 3 m__law_asked) (c__law_dip : Cal P w K mg base "_law_dip" 1 2 m__law_dip) : FnG P w K mg base 9 f fd ["_law_script"] (spN K mg 1 m_law) := by
  have hN := sc_law.nd
  exact okD (k := 8) h sc_law fun cdv A outer s H E hr hgd => (nss_cons (ns_for own_cx rfl (ni_range1 (b_range hB) (na_cons (ne_callB (call_max2 rfl) max2N (b_max hB) (na_cons ne_int (na_cons (ne_callB (call_min2 rfl) min2N (b_min hB) (na_cons ne_int (na_cons (ne_callB call_len lenN (b_len hB) (na_cons (ne_var 0) na_nil)) na_nil))) na_nil))) na_nil)) (ng_name (own := [1]) 1 (by decide) hN rfl (.inl rfl))
    (nss_gc [1, 2, 3] (nss_cons (ns_set 2 hN rfl (.inr rfl) (ne_cal c__law_jar (hr.mono (by omega)) hgd pass_cx (na_cons (ne_var 0) (na_cons (ne_var 1) na_nil))))
    (nss_one (ns_for own_cx rfl (ni_range1 (b_range hB) (na_cons ne_int na_nil)) (ng_name (own := [3]) 3 (by decide) hN rfl (.inl rfl))
    (nss_gc [3, 4, 5, 6, 7, 8, 9, 10] (nss_cons (ns_set 4 hN rfl (.inl rfl) (ne_cal c__law_size (hr.mono (by omega)) hgd pass_cx (na_cons (ne_var 2) (na_cons (ne_var 0) (na_cons ne_int na_nil)))))
    (nss_cons (ns_set 5 hN rfl (.inr rfl) (ne_fz 2 (ne_cal c__law_hands (hr.mono (by omega)) hgd pass_cx (na_cons (ne_var 2) (na_cons (ne_var 4) na_nil)))))
    (nss_cons (ns_asg (ne_tup (na_cons (ne_fz 2 (ne_cal c__law_no_stand (hr.mono (by omega)) hgd pass_cx (na_cons (ne_var 2) (na_cons (ne_var 5) (na_cons (ne_var 4) na_nil))))) (na_cons (ne_fz 2 (ne_cal c__law_no_deed (hr.mono (by omega)) hgd pass_cx (na_cons (ne_var 2) (na_cons (ne_var 4) na_nil)))) na_nil))) (ng_sq rfl (ngs_cons (ng_name (own := [6, 7]) 6 (by decide) hN rfl (.inr rfl)) (ngs_cons (ng_name (own := [6, 7]) 7 (by decide) hN rfl (.inr rfl)) ngs_nil))))
    (nss_cons (ns_set 8 hN rfl (.inr rfl) (ne_tup (na_cons ne_str (na_cons (ne_op op_addA addN ne_int (ne_cal c__law_dip (hr.mono (by omega)) hgd pass_cx (na_cons (ne_var 2) (na_cons (ne_var 4) na_nil)))) na_nil))))
    (nss_cons (ns_set 9 hN rfl (.inl rfl) (ne_callB (call_reprE hr hgd) reprEN (b_repr hB) (na_cons (ne_lst (na_cons (ne_var 5) (na_cons (ne_var 6) (na_cons (ne_var 7) na_nil)))) na_nil)))
    (nss_cons (ns_setLc (own := [("_law_door", 11)]) 10 rfl hN rfl rfl (sw_true rfl rfl rfl (by decide +kernel)) (ni_range1 (b_range hB) (na_cons ne_int na_nil)) (blkOk_by (N := N_law) (sc := defScope s_law) (by decide +kernel)) (fun _ _ _ _ _ => (ng_name (own := [11]) 11 (by decide) hN rfl (.inl rfl))) (fun _ _ _ _ _ => nts_nil) (fun _ _ _ _ _ => (ne_fz 2 (ne_cal c__law_asked (hr.mono (by omega)) hgd passL (na_cons (ne_var 11) (na_cons (ne_var 6) (na_cons (ne_ix (ne_lst (na_cons (ne_var 8) (na_cons (ne_var 7) na_nil))) (ne_cal c__law_dip (hr.mono (by omega)) hgd passL (na_cons (ne_var 2) (na_cons ne_int na_nil)))) na_nil)))))))
    (nss_cons (ns_set 10 hN rfl (.inl rfl) (ne_op op_addA addN (ne_op op_addA addN (ne_var 10) (ne_lc (own := [("_law_door", 11)]) rfl hN (ni_range1 (b_range hB) (na_cons ne_int na_nil)) (blkOk_by (N := N_law) (sc := defScope s_law) (by decide +kernel)) (fun _ _ _ _ _ => (ng_name (own := [11]) 11 (by decide) hN rfl (.inl rfl))) (fun _ _ _ _ _ => nts_nil) (fun _ _ _ _ _ => (ne_fz 2 (ne_cal c__law_asked (hr.mono (by omega)) hgd passL (na_cons (ne_var 11) (na_cons (ne_var 5) (na_cons (ne_var 8) na_nil)))))))) (ne_lst (na_cons (ne_fz 2 (ne_cal c__law_asked (hr.mono (by omega)) hgd pass_cx (na_cons ne_int (na_cons (ne_var 5) (na_cons (ne_var 7) na_nil))))) na_nil))))
    (nss_one (ns_if (nt_w (nw_or (nt_cmp (op_neE hr.units) neN (ne_var 10) (ne_op op_addA addN (ne_op op_addA addN (ne_rep (na_cons ne_str na_nil) ne_int) (ne_rep (na_cons ne_str na_nil) ne_int)) (ne_lst (na_cons (ne_tup (na_cons ne_str (na_cons ne_int na_nil))) na_nil))) (nomark _)) (nw_or1 (nt_cmp (op_neE hr.units) neN (ne_callB (call_reprE hr hgd) reprEN (b_repr hB) (na_cons (ne_lst (na_cons (ne_var 5) (na_cons (ne_var 6) (na_cons (ne_var 7) na_nil)))) na_nil)) (ne_var 9) (nomark _)))))
    (nss_one (ns_ret ne_bl))
    nss_nil)))))))))))))))
    (nss_one (ns_ret ne_bl)))
end
section
variable {K : PySem.W.Frag} {mg : Str → Option Value}
theorem at__law_jar {h : Heap} (X : K.In h) (G : h.Ns mainGlobals mg) {f : Addr} {oc : Value} {od an : Option Addr} {osl : Array (Option Value)} {kV dc pm cd ct : Value} (a : PySem.W.nsIn K mainGlobals "_law_jar" = some (some (.ref f))) (l : K.lookup f = some ⟨oc, od, .func (PySem.W.fnOf "_law_jar" "_law_jar" (defArgs s__law_jar) (defBody s__law_jar) (defScope s__law_jar) .none kV dc pm an cd ct), osl⟩) (c : PySem.W.codeIn K cd "_law_jar" = true) (k : PySem.W.keepIn K (.ref f) = true) : DefAt K mg "_law_jar" s__law_jar ["_law_script", "_law_k"] :=
  ⟨f, _, fun_mk l c k, PySem.W.mg_of X G a, (fun_mk l c k).binds fun _ _ _ _ _ _ us hl => match us, hl with | [_, _], _ => rfl⟩
theorem at__law_dip {h : Heap} (X : K.In h) (G : h.Ns mainGlobals mg) {f : Addr} {oc : Value} {od an : Option Addr} {osl : Array (Option Value)} {kV dc pm cd ct : Value} (a : PySem.W.nsIn K mainGlobals "_law_dip" = some (some (.ref f))) (l : K.lookup f = some ⟨oc, od, .func (PySem.W.fnOf "_law_dip" "_law_dip" (defArgs s__law_dip) (defBody s__law_dip) (defScope s__law_dip) .none kV dc pm an cd ct), osl⟩) (c : PySem.W.codeIn K cd "_law_dip" = true) (k : PySem.W.keepIn K (.ref f) = true) : DefAt K mg "_law_dip" s__law_dip ["_law_jar_here", "_law_below"] :=
  ⟨f, _, fun_mk l c k, PySem.W.mg_of X G a, (fun_mk l c k).binds fun _ _ _ _ _ _ us hl => match us, hl with | [_, _], _ => rfl⟩
theorem at__law_size {h : Heap} (X : K.In h) (G : h.Ns mainGlobals mg) {f : Addr} {oc : Value} {od an : Option Addr} {osl : Array (Option Value)} {kV dc pm cd ct : Value} (a : PySem.W.nsIn K mainGlobals "_law_size" = some (some (.ref f))) (l : K.lookup f = some ⟨oc, od, .func (PySem.W.fnOf "_law_size" "_law_size" (defArgs s__law_size) (defBody s__law_size) (defScope s__law_size) .none kV dc pm an cd ct), osl⟩) (c : PySem.W.codeIn K cd "_law_size" = true) (k : PySem.W.keepIn K (.ref f) = true) : DefAt K mg "_law_size" s__law_size ["_law_jar_here", "_law_script", "_law_most"] :=
  ⟨f, _, fun_mk l c k, PySem.W.mg_of X G a, (fun_mk l c k).binds fun _ _ _ _ _ _ us hl => match us, hl with | [_, _, _], _ => rfl⟩
theorem at__law_ring {h : Heap} (X : K.In h) (G : h.Ns mainGlobals mg) {f : Addr} {oc : Value} {od an : Option Addr} {osl : Array (Option Value)} {kV dc pm cd ct : Value} (a : PySem.W.nsIn K mainGlobals "_law_ring" = some (some (.ref f))) (l : K.lookup f = some ⟨oc, od, .func (PySem.W.fnOf "_law_ring" "_law_ring" (defArgs s__law_ring) (defBody s__law_ring) (defScope s__law_ring) .none kV dc pm an cd ct), osl⟩) (c : PySem.W.codeIn K cd "_law_ring" = true) (k : PySem.W.keepIn K (.ref f) = true) : DefAt K mg "_law_ring" s__law_ring ["_law_size_here"] :=
  ⟨f, _, fun_mk l c k, PySem.W.mg_of X G a, (fun_mk l c k).binds fun _ _ _ _ _ _ us hl => match us, hl with | [_], _ => rfl⟩
theorem at__law_done {h : Heap} (X : K.In h) (G : h.Ns mainGlobals mg) {f : Addr} {oc : Value} {od an : Option Addr} {osl : Array (Option Value)} {kV dc pm cd ct : Value} (a : PySem.W.nsIn K mainGlobals "_law_done" = some (some (.ref f))) (l : K.lookup f = some ⟨oc, od, .func (PySem.W.fnOf "_law_done" "_law_done" (defArgs s__law_done) (defBody s__law_done) (defScope s__law_done) .none kV dc pm an cd ct), osl⟩) (c : PySem.W.codeIn K cd "_law_done" = true) (k : PySem.W.keepIn K (.ref f) = true) : DefAt K mg "_law_done" s__law_done ["_law_here", "_law_act"] :=
  ⟨f, _, fun_mk l c k, PySem.W.mg_of X G a, (fun_mk l c k).binds fun _ _ _ _ _ _ us hl => match us, hl with | [_, _], _ => rfl⟩
theorem at__law_hands {h : Heap} (X : K.In h) (G : h.Ns mainGlobals mg) {f : Addr} {oc : Value} {od an : Option Addr} {osl : Array (Option Value)} {kV dc pm cd ct : Value} (a : PySem.W.nsIn K mainGlobals "_law_hands" = some (some (.ref f))) (l : K.lookup f = some ⟨oc, od, .func (PySem.W.fnOf "_law_hands" "_law_hands" (defArgs s__law_hands) (defBody s__law_hands) (defScope s__law_hands) .none kV dc pm an cd ct), osl⟩) (c : PySem.W.codeIn K cd "_law_hands" = true) (k : PySem.W.keepIn K (.ref f) = true) : DefAt K mg "_law_hands" s__law_hands ["_law_jar_here", "_law_size_here"] :=
  ⟨f, _, fun_mk l c k, PySem.W.mg_of X G a, (fun_mk l c k).binds fun _ _ _ _ _ _ us hl => match us, hl with | [_, _], _ => rfl⟩
theorem at__law_no_stand {h : Heap} (X : K.In h) (G : h.Ns mainGlobals mg) {f : Addr} {oc : Value} {od an : Option Addr} {osl : Array (Option Value)} {kV dc pm cd ct : Value} (a : PySem.W.nsIn K mainGlobals "_law_no_stand" = some (some (.ref f))) (l : K.lookup f = some ⟨oc, od, .func (PySem.W.fnOf "_law_no_stand" "_law_no_stand" (defArgs s__law_no_stand) (defBody s__law_no_stand) (defScope s__law_no_stand) .none kV dc pm an cd ct), osl⟩) (c : PySem.W.codeIn K cd "_law_no_stand" = true) (k : PySem.W.keepIn K (.ref f) = true) : DefAt K mg "_law_no_stand" s__law_no_stand ["_law_jar_here", "_law_here", "_law_size_here"] :=
  ⟨f, _, fun_mk l c k, PySem.W.mg_of X G a, (fun_mk l c k).binds fun _ _ _ _ _ _ us hl => match us, hl with | [_, _, _], _ => rfl⟩
theorem at__law_no_deed {h : Heap} (X : K.In h) (G : h.Ns mainGlobals mg) {f : Addr} {oc : Value} {od an : Option Addr} {osl : Array (Option Value)} {kV dc pm cd ct : Value} (a : PySem.W.nsIn K mainGlobals "_law_no_deed" = some (some (.ref f))) (l : K.lookup f = some ⟨oc, od, .func (PySem.W.fnOf "_law_no_deed" "_law_no_deed" (defArgs s__law_no_deed) (defBody s__law_no_deed) (defScope s__law_no_deed) .none kV dc pm an cd ct), osl⟩) (c : PySem.W.codeIn K cd "_law_no_deed" = true) (k : PySem.W.keepIn K (.ref f) = true) : DefAt K mg "_law_no_deed" s__law_no_deed ["_law_jar_here", "_law_size_here"] :=
  ⟨f, _, fun_mk l c k, PySem.W.mg_of X G a, (fun_mk l c k).binds fun _ _ _ _ _ _ us hl => match us, hl with | [_, _], _ => rfl⟩
theorem at_is_between {h : Heap} (X : K.In h) (G : h.Ns mainGlobals mg) {f : Addr} {oc : Value} {od an : Option Addr} {osl : Array (Option Value)} {kV dc pm cd ct : Value} (a : PySem.W.nsIn K mainGlobals "is_between" = some (some (.ref f))) (l : K.lookup f = some ⟨oc, od, .func (PySem.W.fnOf "is_between" "is_between" (defArgs s_is_between) (defBody s_is_between) (defScope s_is_between) .none kV dc pm an cd ct), osl⟩) (c : PySem.W.codeIn K cd "is_between" = true) (k : PySem.W.keepIn K (.ref f) = true) : DefAt K mg "is_between" s_is_between ["thing", "least", "most"] :=
  ⟨f, _, fun_mk l c k, PySem.W.mg_of X G a, (fun_mk l c k).binds fun _ _ _ _ _ _ us hl => match us, hl with | [_, _, _], _ => rfl⟩
theorem at_is_stand {h : Heap} (X : K.In h) (G : h.Ns mainGlobals mg) {f : Addr} {oc : Value} {od an : Option Addr} {osl : Array (Option Value)} {kV dc pm cd ct : Value} (a : PySem.W.nsIn K mainGlobals "is_stand" = some (some (.ref f))) (l : K.lookup f = some ⟨oc, od, .func (PySem.W.fnOf "is_stand" "is_stand" (defArgs s_is_stand) (defBody s_is_stand) (defScope s_is_stand) .none kV dc pm an cd ct), osl⟩) (c : PySem.W.codeIn K cd "is_stand" = true) (k : PySem.W.keepIn K (.ref f) = true) : DefAt K mg "is_stand" s_is_stand ["thing"] :=
  ⟨f, _, fun_mk l c k, PySem.W.mg_of X G a, (fun_mk l c k).binds fun _ _ _ _ _ _ us hl => match us, hl with | [_], _ => rfl⟩
theorem at_need_stand {h : Heap} (X : K.In h) (G : h.Ns mainGlobals mg) {f : Addr} {oc : Value} {od an : Option Addr} {osl : Array (Option Value)} {kV dc pm cd ct : Value} (a : PySem.W.nsIn K mainGlobals "need_stand" = some (some (.ref f))) (l : K.lookup f = some ⟨oc, od, .func (PySem.W.fnOf "need_stand" "need_stand" (defArgs s_need_stand) (defBody s_need_stand) (defScope s_need_stand) .none kV dc pm an cd ct), osl⟩) (c : PySem.W.codeIn K cd "need_stand" = true) (k : PySem.W.keepIn K (.ref f) = true) : DefAt K mg "need_stand" s_need_stand ["stand"] :=
  ⟨f, _, fun_mk l c k, PySem.W.mg_of X G a, (fun_mk l c k).binds fun _ _ _ _ _ _ us hl => match us, hl with | [_], _ => rfl⟩
theorem at_word_of {h : Heap} (X : K.In h) (G : h.Ns mainGlobals mg) {f : Addr} {oc : Value} {od an : Option Addr} {osl : Array (Option Value)} {kV dc pm cd ct : Value} (a : PySem.W.nsIn K mainGlobals "word_of" = some (some (.ref f))) (l : K.lookup f = some ⟨oc, od, .func (PySem.W.fnOf "word_of" "word_of" (defArgs s_word_of) (defBody s_word_of) (defScope s_word_of) .none kV dc pm an cd ct), osl⟩) (c : PySem.W.codeIn K cd "word_of" = true) (k : PySem.W.keepIn K (.ref f) = true) : DefAt K mg "word_of" s_word_of ["stand", "border"] :=
  ⟨f, _, fun_mk l c k, PySem.W.mg_of X G a, (fun_mk l c k).binds fun _ _ _ _ _ _ us hl => match us, hl with | [_, _], _ => rfl⟩
theorem at_words {h : Heap} (X : K.In h) (G : h.Ns mainGlobals mg) {f : Addr} {oc : Value} {od an : Option Addr} {osl : Array (Option Value)} {kV dc pm cd ct : Value} (a : PySem.W.nsIn K mainGlobals "words" = some (some (.ref f))) (l : K.lookup f = some ⟨oc, od, .func (PySem.W.fnOf "words" "words" (defArgs s_words) (defBody s_words) (defScope s_words) .none kV dc pm an cd ct), osl⟩) (c : PySem.W.codeIn K cd "words" = true) (k : PySem.W.keepIn K (.ref f) = true) : DefAt K mg "words" s_words ["stand"] :=
  ⟨f, _, fun_mk l c k, PySem.W.mg_of X G a, (fun_mk l c k).binds fun _ _ _ _ _ _ us hl => match us, hl with | [_], _ => rfl⟩
theorem at_owners_in {h : Heap} (X : K.In h) (G : h.Ns mainGlobals mg) {f : Addr} {oc : Value} {od an : Option Addr} {osl : Array (Option Value)} {kV dc pm cd ct : Value} (a : PySem.W.nsIn K mainGlobals "owners_in" = some (some (.ref f))) (l : K.lookup f = some ⟨oc, od, .func (PySem.W.fnOf "owners_in" "owners_in" (defArgs s_owners_in) (defBody s_owners_in) (defScope s_owners_in) .none kV dc pm an cd ct), osl⟩) (c : PySem.W.codeIn K cd "owners_in" = true) (k : PySem.W.keepIn K (.ref f) = true) : DefAt K mg "owners_in" s_owners_in ["told"] :=
  ⟨f, _, fun_mk l c k, PySem.W.mg_of X G a, (fun_mk l c k).binds fun _ _ _ _ _ _ us hl => match us, hl with | [_], _ => rfl⟩
theorem at_fewest {h : Heap} (X : K.In h) (G : h.Ns mainGlobals mg) {f : Addr} {oc : Value} {od an : Option Addr} {osl : Array (Option Value)} {kV dc pm cd ct : Value} (a : PySem.W.nsIn K mainGlobals "fewest" = some (some (.ref f))) (l : K.lookup f = some ⟨oc, od, .func (PySem.W.fnOf "fewest" "fewest" (defArgs s_fewest) (defBody s_fewest) (defScope s_fewest) .none kV dc pm an cd ct), osl⟩) (c : PySem.W.codeIn K cd "fewest" = true) (k : PySem.W.keepIn K (.ref f) = true) : DefAt K mg "fewest" s_fewest ["stand"] :=
  ⟨f, _, fun_mk l c k, PySem.W.mg_of X G a, (fun_mk l c k).binds fun _ _ _ _ _ _ us hl => match us, hl with | [_], _ => rfl⟩
theorem at_all_deeds {h : Heap} (X : K.In h) (G : h.Ns mainGlobals mg) {f : Addr} {oc : Value} {od an : Option Addr} {osl : Array (Option Value)} {kV dc pm cd ct : Value} (a : PySem.W.nsIn K mainGlobals "all_deeds" = some (some (.ref f))) (l : K.lookup f = some ⟨oc, od, .func (PySem.W.fnOf "all_deeds" "all_deeds" (defArgs s_all_deeds) (defBody s_all_deeds) (defScope s_all_deeds) .none kV dc pm an cd ct), osl⟩) (c : PySem.W.codeIn K cd "all_deeds" = true) (k : PySem.W.keepIn K (.ref f) = true) : DefAt K mg "all_deeds" s_all_deeds ["stand"] :=
  ⟨f, _, fun_mk l c k, PySem.W.mg_of X G a, (fun_mk l c k).binds fun _ _ _ _ _ _ us hl => match us, hl with | [_], _ => rfl⟩
theorem at_is_deed {h : Heap} (X : K.In h) (G : h.Ns mainGlobals mg) {f : Addr} {oc : Value} {od an : Option Addr} {osl : Array (Option Value)} {kV dc pm cd ct : Value} (a : PySem.W.nsIn K mainGlobals "is_deed" = some (some (.ref f))) (l : K.lookup f = some ⟨oc, od, .func (PySem.W.fnOf "is_deed" "is_deed" (defArgs s_is_deed) (defBody s_is_deed) (defScope s_is_deed) .none kV dc pm an cd ct), osl⟩) (c : PySem.W.codeIn K cd "is_deed" = true) (k : PySem.W.keepIn K (.ref f) = true) : DefAt K mg "is_deed" s_is_deed ["thing", "most"] :=
  ⟨f, _, fun_mk l c k, PySem.W.mg_of X G a, (fun_mk l c k).binds fun _ _ _ _ _ _ us hl => match us, hl with | [_, _], _ => rfl⟩
theorem at_need_deeds {h : Heap} (X : K.In h) (G : h.Ns mainGlobals mg) {f : Addr} {oc : Value} {od an : Option Addr} {osl : Array (Option Value)} {kV dc pm cd ct : Value} (a : PySem.W.nsIn K mainGlobals "need_deeds" = some (some (.ref f))) (l : K.lookup f = some ⟨oc, od, .func (PySem.W.fnOf "need_deeds" "need_deeds" (defArgs s_need_deeds) (defBody s_need_deeds) (defScope s_need_deeds) .none kV dc pm an cd ct), osl⟩) (c : PySem.W.codeIn K cd "need_deeds" = true) (k : PySem.W.keepIn K (.ref f) = true) : DefAt K mg "need_deeds" s_need_deeds ["deeds", "most"] :=
  ⟨f, _, fun_mk l c k, PySem.W.mg_of X G a, (fun_mk l c k).binds fun _ _ _ _ _ _ us hl => match us, hl with | [_, _], _ => rfl⟩
theorem at_copied {h : Heap} (X : K.In h) (G : h.Ns mainGlobals mg) {f : Addr} {oc : Value} {od an : Option Addr} {osl : Array (Option Value)} {kV dc pm cd ct : Value} (a : PySem.W.nsIn K mainGlobals "copied" = some (some (.ref f))) (l : K.lookup f = some ⟨oc, od, .func (PySem.W.fnOf "copied" "copied" (defArgs s_copied) (defBody s_copied) (defScope s_copied) .none kV dc pm an cd ct), osl⟩) (c : PySem.W.codeIn K cd "copied" = true) (k : PySem.W.keepIn K (.ref f) = true) : DefAt K mg "copied" s_copied ["stand"] :=
  ⟨f, _, fun_mk l c k, PySem.W.mg_of X G a, (fun_mk l c k).binds fun _ _ _ _ _ _ us hl => match us, hl with | [_], _ => rfl⟩
theorem at_dancers_of {h : Heap} (X : K.In h) (G : h.Ns mainGlobals mg) {f : Addr} {oc : Value} {od an : Option Addr} {osl : Array (Option Value)} {kV dc pm cd ct : Value} (a : PySem.W.nsIn K mainGlobals "dancers_of" = some (some (.ref f))) (l : K.lookup f = some ⟨oc, od, .func (PySem.W.fnOf "dancers_of" "dancers_of" (defArgs s_dancers_of) (defBody s_dancers_of) (defScope s_dancers_of) .none kV dc pm an cd ct), osl⟩) (c : PySem.W.codeIn K cd "dancers_of" = true) (k : PySem.W.keepIn K (.ref f) = true) : DefAt K mg "dancers_of" s_dancers_of ["stand"] :=
  ⟨f, _, fun_mk l c k, PySem.W.mg_of X G a, (fun_mk l c k).binds fun _ _ _ _ _ _ us hl => match us, hl with | [_], _ => rfl⟩
theorem at_hands_by {h : Heap} (X : K.In h) (G : h.Ns mainGlobals mg) {f : Addr} {oc : Value} {od an : Option Addr} {osl : Array (Option Value)} {kV dc pm cd ct : Value} (a : PySem.W.nsIn K mainGlobals "hands_by" = some (some (.ref f))) (l : K.lookup f = some ⟨oc, od, .func (PySem.W.fnOf "hands_by" "hands_by" (defArgs s_hands_by) (defBody s_hands_by) (defScope s_hands_by) .none kV dc pm an cd ct), osl⟩) (c : PySem.W.codeIn K cd "hands_by" = true) (k : PySem.W.keepIn K (.ref f) = true) : DefAt K mg "hands_by" s_hands_by ["stand", "deed"] :=
  ⟨f, _, fun_mk l c k, PySem.W.mg_of X G a, (fun_mk l c k).binds fun _ _ _ _ _ _ us hl => match us, hl with | [_, _], _ => rfl⟩
theorem at_behind {h : Heap} (X : K.In h) (G : h.Ns mainGlobals mg) {f : Addr} {oc : Value} {od an : Option Addr} {osl : Array (Option Value)} {kV dc pm cd ct : Value} (a : PySem.W.nsIn K mainGlobals "behind" = some (some (.ref f))) (l : K.lookup f = some ⟨oc, od, .func (PySem.W.fnOf "behind" "behind" (defArgs s_behind) (defBody s_behind) (defScope s_behind) .none kV dc pm an cd ct), osl⟩) (c : PySem.W.codeIn K cd "behind" = true) (k : PySem.W.keepIn K (.ref f) = true) : DefAt K mg "behind" s_behind ["stand", "deeds"] :=
  ⟨f, _, fun_mk l c k, PySem.W.mg_of X G a, (fun_mk l c k).binds fun _ _ _ _ _ _ us hl => match us, hl with | [_, _], _ => rfl⟩
theorem at_nexts {h : Heap} (X : K.In h) (G : h.Ns mainGlobals mg) {f : Addr} {oc : Value} {od an : Option Addr} {osl : Array (Option Value)} {kV dc pm cd ct : Value} (a : PySem.W.nsIn K mainGlobals "nexts" = some (some (.ref f))) (l : K.lookup f = some ⟨oc, od, .func (PySem.W.fnOf "nexts" "nexts" (defArgs s_nexts) (defBody s_nexts) (defScope s_nexts) .none kV dc pm an cd ct), osl⟩) (c : PySem.W.codeIn K cd "nexts" = true) (k : PySem.W.keepIn K (.ref f) = true) : DefAt K mg "nexts" s_nexts ["stand"] :=
  ⟨f, _, fun_mk l c k, PySem.W.mg_of X G a, (fun_mk l c k).binds fun _ _ _ _ _ _ us hl => match us, hl with | [_], _ => rfl⟩
theorem at_forgotten {h : Heap} (X : K.In h) (G : h.Ns mainGlobals mg) {f : Addr} {oc : Value} {od an : Option Addr} {osl : Array (Option Value)} {kV dc pm cd ct : Value} (a : PySem.W.nsIn K mainGlobals "forgotten" = some (some (.ref f))) (l : K.lookup f = some ⟨oc, od, .func (PySem.W.fnOf "forgotten" "forgotten" (defArgs s_forgotten) (defBody s_forgotten) (defScope s_forgotten) .none kV dc pm an cd ct), osl⟩) (c : PySem.W.codeIn K cd "forgotten" = true) (k : PySem.W.keepIn K (.ref f) = true) : DefAt K mg "forgotten" s_forgotten ["stand"] :=
  ⟨f, _, fun_mk l c k, PySem.W.mg_of X G a, (fun_mk l c k).binds fun _ _ _ _ _ _ us hl => match us, hl with | [_], _ => rfl⟩
theorem at_forgotten_ahead {h : Heap} (X : K.In h) (G : h.Ns mainGlobals mg) {f : Addr} {oc : Value} {od an : Option Addr} {osl : Array (Option Value)} {kV dc pm cd ct : Value} (a : PySem.W.nsIn K mainGlobals "forgotten_ahead" = some (some (.ref f))) (l : K.lookup f = some ⟨oc, od, .func (PySem.W.fnOf "forgotten_ahead" "forgotten_ahead" (defArgs s_forgotten_ahead) (defBody s_forgotten_ahead) (defScope s_forgotten_ahead) .none kV dc pm an cd ct), osl⟩) (c : PySem.W.codeIn K cd "forgotten_ahead" = true) (k : PySem.W.keepIn K (.ref f) = true) : DefAt K mg "forgotten_ahead" s_forgotten_ahead ["stand"] :=
  ⟨f, _, fun_mk l c k, PySem.W.mg_of X G a, (fun_mk l c k).binds fun _ _ _ _ _ _ us hl => match us, hl with | [_], _ => rfl⟩
theorem at_newly_forgotten {h : Heap} (X : K.In h) (G : h.Ns mainGlobals mg) {f : Addr} {oc : Value} {od an : Option Addr} {osl : Array (Option Value)} {kV dc pm cd ct : Value} (a : PySem.W.nsIn K mainGlobals "newly_forgotten" = some (some (.ref f))) (l : K.lookup f = some ⟨oc, od, .func (PySem.W.fnOf "newly_forgotten" "newly_forgotten" (defArgs s_newly_forgotten) (defBody s_newly_forgotten) (defScope s_newly_forgotten) .none kV dc pm an cd ct), osl⟩) (c : PySem.W.codeIn K cd "newly_forgotten" = true) (k : PySem.W.keepIn K (.ref f) = true) : DefAt K mg "newly_forgotten" s_newly_forgotten ["stand", "deed", "ahead"] :=
  ⟨f, _, fun_mk l c k, PySem.W.mg_of X G a, (fun_mk l c k).binds fun _ _ _ _ _ _ us hl => match us, hl with | [_, _, _], _ => rfl⟩
theorem at_forgetting {h : Heap} (X : K.In h) (G : h.Ns mainGlobals mg) {f : Addr} {oc : Value} {od an : Option Addr} {osl : Array (Option Value)} {kV dc pm cd ct : Value} (a : PySem.W.nsIn K mainGlobals "forgetting" = some (some (.ref f))) (l : K.lookup f = some ⟨oc, od, .func (PySem.W.fnOf "forgetting" "forgetting" (defArgs s_forgetting) (defBody s_forgetting) (defScope s_forgetting) .none kV dc pm an cd ct), osl⟩) (c : PySem.W.codeIn K cd "forgetting" = true) (k : PySem.W.keepIn K (.ref f) = true) : DefAt K mg "forgetting" s_forgetting ["stand"] :=
  ⟨f, _, fun_mk l c k, PySem.W.mg_of X G a, (fun_mk l c k).binds fun _ _ _ _ _ _ us hl => match us, hl with | [_], _ => rfl⟩
theorem at_changed {h : Heap} (X : K.In h) (G : h.Ns mainGlobals mg) {f : Addr} {oc : Value} {od an : Option Addr} {osl : Array (Option Value)} {kV dc pm cd ct : Value} (a : PySem.W.nsIn K mainGlobals "changed" = some (some (.ref f))) (l : K.lookup f = some ⟨oc, od, .func (PySem.W.fnOf "changed" "changed" (defArgs s_changed) (defBody s_changed) (defScope s_changed) .none kV dc pm an cd ct), osl⟩) (c : PySem.W.codeIn K cd "changed" = true) (k : PySem.W.keepIn K (.ref f) = true) : DefAt K mg "changed" s_changed ["stand", "deed"] :=
  ⟨f, _, fun_mk l c k, PySem.W.mg_of X G a, (fun_mk l c k).binds fun _ _ _ _ _ _ us hl => match us, hl with | [_, _], _ => rfl⟩
theorem at_idle {h : Heap} (X : K.In h) (G : h.Ns mainGlobals mg) {f : Addr} {oc : Value} {od an : Option Addr} {osl : Array (Option Value)} {kV dc pm cd ct : Value} (a : PySem.W.nsIn K mainGlobals "idle" = some (some (.ref f))) (l : K.lookup f = some ⟨oc, od, .func (PySem.W.fnOf "idle" "idle" (defArgs s_idle) (defBody s_idle) (defScope s_idle) .none kV dc pm an cd ct), osl⟩) (c : PySem.W.codeIn K cd "idle" = true) (k : PySem.W.keepIn K (.ref f) = true) : DefAt K mg "idle" s_idle ["stand"] :=
  ⟨f, _, fun_mk l c k, PySem.W.mg_of X G a, (fun_mk l c k).binds fun _ _ _ _ _ _ us hl => match us, hl with | [_], _ => rfl⟩
theorem at_forgets {h : Heap} (X : K.In h) (G : h.Ns mainGlobals mg) {f : Addr} {oc : Value} {od an : Option Addr} {osl : Array (Option Value)} {kV dc pm cd ct : Value} (a : PySem.W.nsIn K mainGlobals "forgets" = some (some (.ref f))) (l : K.lookup f = some ⟨oc, od, .func (PySem.W.fnOf "forgets" "forgets" (defArgs s_forgets) (defBody s_forgets) (defScope s_forgets) .none kV dc pm an cd ct), osl⟩) (c : PySem.W.codeIn K cd "forgets" = true) (k : PySem.W.keepIn K (.ref f) = true) : DefAt K mg "forgets" s_forgets ["stand", "deed"] :=
  ⟨f, _, fun_mk l c k, PySem.W.mg_of X G a, (fun_mk l c k).binds fun _ _ _ _ _ _ us hl => match us, hl with | [_, _], _ => rfl⟩
theorem at__law_word {h : Heap} (X : K.In h) (G : h.Ns mainGlobals mg) {f : Addr} {oc : Value} {od an : Option Addr} {osl : Array (Option Value)} {kV dc pm cd ct : Value} (a : PySem.W.nsIn K mainGlobals "_law_word" = some (some (.ref f))) (l : K.lookup f = some ⟨oc, od, .func (PySem.W.fnOf "_law_word" "_law_word" (defArgs s__law_word) (defBody s__law_word) (defScope s__law_word) .none kV dc pm an cd ct), osl⟩) (c : PySem.W.codeIn K cd "_law_word" = true) (k : PySem.W.keepIn K (.ref f) = true) : DefAt K mg "_law_word" s__law_word ["_law_e"] :=
  ⟨f, _, fun_mk l c k, PySem.W.mg_of X G a, (fun_mk l c k).binds fun _ _ _ _ _ _ us hl => match us, hl with | [_], _ => rfl⟩
theorem at__law_asked {h : Heap} (X : K.In h) (G : h.Ns mainGlobals mg) {f : Addr} {oc : Value} {od an : Option Addr} {osl : Array (Option Value)} {kV dc pm cd ct : Value} (a : PySem.W.nsIn K mainGlobals "_law_asked" = some (some (.ref f))) (l : K.lookup f = some ⟨oc, od, .func (PySem.W.fnOf "_law_asked" "_law_asked" (defArgs s__law_asked) (defBody s__law_asked) (defScope s__law_asked) .none kV dc pm an cd ct), osl⟩) (c : PySem.W.codeIn K cd "_law_asked" = true) (k : PySem.W.keepIn K (.ref f) = true) : DefAt K mg "_law_asked" s__law_asked ["_law_door", "_law_here", "_law_one_deed"] :=
  ⟨f, _, fun_mk l c k, PySem.W.mg_of X G a, (fun_mk l c k).binds fun _ _ _ _ _ _ us hl => match us, hl with | [_, _, _], _ => rfl⟩
theorem blts_of {h : Heap} (X : K.In h) (G : h.Ns mainGlobals mg) (z0 : PySem.W.nsIn K mainGlobals "all" = some none) (z1 : PySem.W.nsIn K mainGlobals "bool" = some none) (z2 : PySem.W.nsIn K mainGlobals "enumerate" = some none) (z3 : PySem.W.nsIn K mainGlobals "int" = some none) (z4 : PySem.W.nsIn K mainGlobals "isinstance" = some none) (z5 : PySem.W.nsIn K mainGlobals "len" = some none) (z6 : PySem.W.nsIn K mainGlobals "list" = some none) (z7 : PySem.W.nsIn K mainGlobals "max" = some none) (z8 : PySem.W.nsIn K mainGlobals "min" = some none) (z9 : PySem.W.nsIn K mainGlobals "range" = some none) (z10 : PySem.W.nsIn K mainGlobals "repr" = some none) (z11 : PySem.W.nsIn K mainGlobals "str" = some none) (z12 : PySem.W.nsIn K mainGlobals "tuple" = some none) : Blts mg := by
  show ∀ x ∈ bltNames, mg x = none
  unfold bltNames
  exact List.forall_mem_cons.mpr ⟨PySem.W.mg_none_of X G z0, List.forall_mem_cons.mpr ⟨PySem.W.mg_none_of X G z1, List.forall_mem_cons.mpr ⟨PySem.W.mg_none_of X G z2, List.forall_mem_cons.mpr ⟨PySem.W.mg_none_of X G z3, List.forall_mem_cons.mpr ⟨PySem.W.mg_none_of X G z4, List.forall_mem_cons.mpr ⟨PySem.W.mg_none_of X G z5, List.forall_mem_cons.mpr ⟨PySem.W.mg_none_of X G z6, List.forall_mem_cons.mpr ⟨PySem.W.mg_none_of X G z7, List.forall_mem_cons.mpr ⟨PySem.W.mg_none_of X G z8, List.forall_mem_cons.mpr ⟨PySem.W.mg_none_of X G z9, List.forall_mem_cons.mpr ⟨PySem.W.mg_none_of X G z10, List.forall_mem_cons.mpr ⟨PySem.W.mg_none_of X G z11, List.forall_mem_cons.mpr ⟨PySem.W.mg_none_of X G z12, fun x hx => nomatch hx⟩⟩⟩⟩⟩⟩⟩⟩⟩⟩⟩⟩⟩
theorem gc_COME_later {h : Heap} (X : K.In h) (G : h.Ns mainGlobals mg) {t : Tok} (a : PySem.W.nsIn K mainGlobals "COME_later" = some (some (.str "come" t))) : GlobC mg K "COME_later" k_COME_later := ⟨_, .str "come", PySem.W.mg_of X G a, ⟨t, rfl⟩, fun _ _ => rfl⟩
theorem gc_FORGOTTEN_mending {h : Heap} (X : K.In h) (G : h.Ns mainGlobals mg) {t : Tok} (a : PySem.W.nsIn K mainGlobals "FORGOTTEN_mending" = some (some (.str "forgotten" t))) : GlobC mg K "FORGOTTEN_mending" k_FORGOTTEN_mending := ⟨_, .str "forgotten", PySem.W.mg_of X G a, ⟨t, rfl⟩, fun _ _ => rfl⟩
theorem gc_FORGOTTEN_stands {h : Heap} (X : K.In h) (G : h.Ns mainGlobals mg) {t : Tok} (a : PySem.W.nsIn K mainGlobals "FORGOTTEN_stands" = some (some (.str "forgotten" t))) : GlobC mg K "FORGOTTEN_stands" k_FORGOTTEN_stands := ⟨_, .str "forgotten", PySem.W.mg_of X G a, ⟨t, rfl⟩, fun _ _ => rfl⟩
theorem gc_GO_deeds {h : Heap} (X : K.In h) (G : h.Ns mainGlobals mg) {t : Tok} (a : PySem.W.nsIn K mainGlobals "GO_deeds" = some (some (.str "go" t))) : GlobC mg K "GO_deeds" k_GO_deeds := ⟨_, .str "go", PySem.W.mg_of X G a, ⟨t, rfl⟩, fun _ _ => rfl⟩
theorem gc_GO_later {h : Heap} (X : K.In h) (G : h.Ns mainGlobals mg) {t : Tok} (a : PySem.W.nsIn K mainGlobals "GO_later" = some (some (.str "go" t))) : GlobC mg K "GO_later" k_GO_later := ⟨_, .str "go", PySem.W.mg_of X G a, ⟨t, rfl⟩, fun _ _ => rfl⟩
theorem gc_HELD_mending {h : Heap} (X : K.In h) (G : h.Ns mainGlobals mg) {t : Tok} (a : PySem.W.nsIn K mainGlobals "HELD_mending" = some (some (.str "held" t))) : GlobC mg K "HELD_mending" k_HELD_mending := ⟨_, .str "held", PySem.W.mg_of X G a, ⟨t, rfl⟩, fun _ _ => rfl⟩
theorem gc_HELD_stands {h : Heap} (X : K.In h) (G : h.Ns mainGlobals mg) {t : Tok} (a : PySem.W.nsIn K mainGlobals "HELD_stands" = some (some (.str "held" t))) : GlobC mg K "HELD_stands" k_HELD_stands := ⟨_, .str "held", PySem.W.mg_of X G a, ⟨t, rfl⟩, fun _ _ => rfl⟩
theorem gc_LEAST_DANCER {h : Heap} (X : K.In h) (G : h.Ns mainGlobals mg) {t : Tok} (a : PySem.W.nsIn K mainGlobals "LEAST_DANCER" = some (some (.int 1 t))) : GlobC mg K "LEAST_DANCER" k_LEAST_DANCER := ⟨_, .int 1, PySem.W.mg_of X G a, ⟨t, rfl⟩, fun _ _ => rfl⟩
theorem gc_LEFT_deeds {h : Heap} (X : K.In h) (G : h.Ns mainGlobals mg) {t : Tok} (a : PySem.W.nsIn K mainGlobals "LEFT_deeds" = some (some (.str "left" t))) : GlobC mg K "LEFT_deeds" k_LEFT_deeds := ⟨_, .str "left", PySem.W.mg_of X G a, ⟨t, rfl⟩, fun _ _ => rfl⟩
theorem gc_LEFT_mending {h : Heap} (X : K.In h) (G : h.Ns mainGlobals mg) {t : Tok} (a : PySem.W.nsIn K mainGlobals "LEFT_mending" = some (some (.str "left" t))) : GlobC mg K "LEFT_mending" k_LEFT_mending := ⟨_, .str "left", PySem.W.mg_of X G a, ⟨t, rfl⟩, fun _ _ => rfl⟩
theorem gc_LEFT_stands {h : Heap} (X : K.In h) (G : h.Ns mainGlobals mg) {t : Tok} (a : PySem.W.nsIn K mainGlobals "LEFT_stands" = some (some (.str "left" t))) : GlobC mg K "LEFT_stands" k_LEFT_stands := ⟨_, .str "left", PySem.W.mg_of X G a, ⟨t, rfl⟩, fun _ _ => rfl⟩
theorem gc_RIGHT_deeds {h : Heap} (X : K.In h) (G : h.Ns mainGlobals mg) {t : Tok} (a : PySem.W.nsIn K mainGlobals "RIGHT_deeds" = some (some (.str "right" t))) : GlobC mg K "RIGHT_deeds" k_RIGHT_deeds := ⟨_, .str "right", PySem.W.mg_of X G a, ⟨t, rfl⟩, fun _ _ => rfl⟩
theorem gc_RIGHT_stands {h : Heap} (X : K.In h) (G : h.Ns mainGlobals mg) {t : Tok} (a : PySem.W.nsIn K mainGlobals "RIGHT_stands" = some (some (.str "right" t))) : GlobC mg K "RIGHT_stands" k_RIGHT_stands := ⟨_, .str "right", PySem.W.mg_of X G a, ⟨t, rfl⟩, fun _ _ => rfl⟩
theorem gc_WORDS {h : Heap} (X : K.In h) (G : h.Ns mainGlobals mg) {a : Addr} {od : Option Addr} {its : Array Value} {n : Nat} {osl : Array (Option Value)} (e : PySem.W.nsIn K mainGlobals "WORDS" = some (some (.ref a))) (l : K.lookup a = some ⟨.type "tuple", od, .seq its n, osl⟩) (z : its.size ≤ sizeLine) (v : Vals [.str "go", .str "come"] its.toList) : GlobC mg K "WORDS" k_WORDS := gc_tup (PySem.W.mg_of X G e) l z v fun _ _ => ⟨_, _, rfl, rfl, ⟨_, _, rfl, rfl, rfl⟩⟩
def s_I_NoDeed : Stmt := match topS 10 with
  | .ClassDef _ _ _ (s :: _) _ _ _ _ _ _ _ => s
  | s => s
theorem sc_I_NoDeed : FnScope ["self", "at"] ["self", "at"] (defScope s_I_NoDeed) := ⟨rfl, rfl, rfl, by decide +kernel, rfl, by decide +kernel, by decide +kernel⟩
theorem okI_NoDeed {P : Program} {w : World} {base : Heap} {C R f : Addr} {fd : FuncData} (T0 : BaseX K R) (gR : mg "RingError" = some (.ref R)) (h : Fun K "__init__" "NoDeed.__init__" s_I_NoDeed f fd) : FnOk P w K mg base CX0 1 f fd ["self", "at"] (spI K C "at") :=
  h.ok (k := 0) sc_I_NoDeed spI_len fun cdv A outer s H vs Q E hr hsp => ⟨_, pss_cons (ps_expr (pe_baseInit T0 gR rfl (by decide) (pa_cons (pv 0) (pa_cons pe_str pa_nil)))) (pss_one (ps_ost (pv 0) (pv 1))), spI_read (De := { nx := fun _ H' => Q .non H', rt := Q }) hsp (fun _ _ h => h) (fun _ _ h => h)⟩
theorem err_NoDeed {h : Heap} (X : K.In h) (G : h.Ns mainGlobals mg) {C R S f N : Addr} {nm qn : Str} {bs : List Value} {sn : List Str} {sub : List Value} {ab : Bool} {col : Option Bool} {dd : Option Addr} {m0 m1 m2 m3 m5 : Option Value} {oc : Value} {od an : Option Addr} {osl : Array (Option Value)} {kV dc pm cd ct : Value}
    (aC : PySem.W.nsIn K mainGlobals "NoDeed" = some (some (.ref C))) (aR : PySem.W.nsIn K mainGlobals "RingError" = some (some (.ref R))) (aS : PySem.W.nsIn K mainGlobals "RingError" = some (some (.ref S)))
    (lC : K.lookup C = some (excClassObj nm qn C N bs [.ref R, .type "ValueError", .type "Exception", .type "BaseException", .type "object"] true sn sub ab col dd m0 m1 m2 m3 m5 "ValueError.__new__")) (sa : PySem.W.findIn K (.ref C) "__setattr__" = some (some (.builtin "object.__setattr__"))) (ga : PySem.W.findIn K (.ref C) "__getattribute__" = some (some (.builtin "BaseException.__getattribute__"))) (gg : PySem.W.findIn K (.ref C) "__getattr__" = some none) (nf : PySem.W.findIn K (.ref C) "at" = some none) (eC : PySem.W.subIn K (.ref C) (.type "BaseException") = some true) (tC : PySem.W.typeIn K (.ref C) = some (.type "type")) (kC : PySem.W.keepIn K (.ref C) = true) (hC : PySem.W.hasDictIn K C = true) (iC : PySem.W.findIn K (.ref C) "__init__" = some (some (.ref f))) (tI : PySem.W.typeIn K (.ref f) = some (.type "function")) (xa : PySem.W.findIn K (.ref C) "__class__" = some (some (.builtin "object.__class__"))) (xn : PySem.W.specialIn K (.builtin "object.__class__") "__get__" = some (some (.builtin "getset_descriptor.__get__"))) (xt : PySem.W.takesIn K (.builtin "object.__class__") = some true) (xm : PySem.W.mroIn K C (.type "object") = some true) (rd : PySem.W.readsIn K R (.type "type") = true) (rg : PySem.W.specialIn K (.ref R) "__getattribute__" = some (some (.builtin "type.__getattribute__"))) (ri : PySem.W.findCls K (.ref R) (.type "type") "__init__" = some (.val (.builtin "ValueError.__init__"))) (s1 : PySem.W.subIn K (.ref S) (.type "BaseException") = some true) (s2 : PySem.W.hasDictIn K S = true) (s3 : PySem.W.typeIn K (.ref S) = some (.type "type")) (s4 : PySem.W.subIn K (.ref C) (.ref S) = some true) (tv : PySem.W.subIn K (.ref C) (.type "ValueError") = some true)
    (l : K.lookup f = some ⟨oc, od, .func (PySem.W.fnOf "__init__" "NoDeed.__init__" (defArgs s_I_NoDeed) (defBody s_I_NoDeed) (defScope s_I_NoDeed) .none kV dc pm an cd ct), osl⟩) (c : PySem.W.codeIn K cd "NoDeed.__init__" = true) (k : PySem.W.keepIn K (.ref f) = true) : ∀ (P : Program) (w : World) (base : Heap), ErrX P w K mg base "NoDeed" "at" "RingError" := fun P w base => by
  have F := fun_mk (st := s_I_NoDeed) l c k
  have F0 : FnOk P w K mg base CX0 1 f _ ["self", "at"] (spI K C "at") := okI_NoDeed ⟨rd, rg, ri⟩ (PySem.W.mg_of X G aR) F
  have ox : OexC K C := ⟨⟨nm, qn, N, bs, _, sn, sub, ab, col, dd, m0, m1, m2, m3, m5, lC, rfl⟩, sa, eC, tC, kC⟩
  exact errX_mk (PySem.W.mg_of X G aC) ox nf iC tI F0 (F.binds fun _ _ _ _ _ _ us hl => match us, hl with | [_, _], _ => rfl) ga gg eC hC xa xn xt xm (PySem.W.mg_of X G aS) s1 s2 s3 s4 tv
theorem fa_r_NoStand {h : Heap} (X : K.In h) (G : h.Ns mainGlobals mg) {C : Addr} (aC : PySem.W.nsIn K mainGlobals "NoStand" = some (some (.ref C))) (ex : PySem.W.excIn K C [.type "ValueError", .type "Exception", .type "BaseException", .type "object"] "ValueError.__new__" = true) (kp : PySem.W.keepIn K (.ref C) = true) (sb : PySem.W.subIn K (.ref C) (.type "BaseException") = some true) (ty : PySem.W.typeIn K (.ref C) = some (.type "type")) : Raise0 K mg "NoStand" := ⟨C, PySem.W.mg_of X G aC, ex, kp, sb, ty⟩
theorem fa_o_NoStand {h : Heap} (X : K.In h) (G : h.Ns mainGlobals mg) {C0 C1 : Addr} (aC0 : PySem.W.nsIn K mainGlobals "NoStand" = some (some (.ref C0))) (aC1 : PySem.W.nsIn K mainGlobals "NoDeed" = some (some (.ref C1))) (h2 : PySem.W.hasDictIn K C0 = true) (h3 : PySem.W.typeIn K (.ref C0) = some (.type "type")) (ne1 : C1 ≠ C0) (h41 : PySem.W.subIn K (.ref C1) (.ref C0) = some false) : OwnK K mg errTb "NoStand" := ownK_ref (PySem.W.mg_of X G aC0) (kitT_cons aC0 (kit_self.trans (by decide +kernel : some true = some ((["NoStand", "RingError", "ValueError"] : List Str).contains "NoStand"))) (kitT_cons aC1 ((kit_ref ne1 h2 h3 h41).trans (by decide +kernel : some false = some ((["NoDeed", "RingError", "ValueError"] : List Str).contains "NoStand"))) kitT_nil))
theorem fa_o_E {h : Heap} (X : K.In h) (G : h.Ns mainGlobals mg) {C0 C1 : Addr} (aC0 : PySem.W.nsIn K mainGlobals "NoStand" = some (some (.ref C0))) (aC1 : PySem.W.nsIn K mainGlobals "NoDeed" = some (some (.ref C1))) (ga0 : PySem.W.findIn K (.ref C0) "__getattribute__" = some (some (.builtin "BaseException.__getattribute__"))) (gg0 : PySem.W.findIn K (.ref C0) "__getattr__" = some none) (eC0 : PySem.W.subIn K (.ref C0) (.type "BaseException") = some true) (hC0 : PySem.W.hasDictIn K C0 = true) (xa0 : PySem.W.findIn K (.ref C0) "__class__" = some (some (.builtin "object.__class__"))) (xn0 : PySem.W.specialIn K (.builtin "object.__class__") "__get__" = some (some (.builtin "getset_descriptor.__get__"))) (xt0 : PySem.W.takesIn K (.builtin "object.__class__") = some true) (xm0 : PySem.W.mroIn K C0 (.type "object") = some true) (ga1 : PySem.W.findIn K (.ref C1) "__getattribute__" = some (some (.builtin "BaseException.__getattribute__"))) (gg1 : PySem.W.findIn K (.ref C1) "__getattr__" = some none) (eC1 : PySem.W.subIn K (.ref C1) (.type "BaseException") = some true) (hC1 : PySem.W.hasDictIn K C1 = true) (xa1 : PySem.W.findIn K (.ref C1) "__class__" = some (some (.builtin "object.__class__"))) (xn1 : PySem.W.specialIn K (.builtin "object.__class__") "__get__" = some (some (.builtin "getset_descriptor.__get__"))) (xt1 : PySem.W.takesIn K (.builtin "object.__class__") = some true) (xm1 : PySem.W.mroIn K C1 (.type "object") = some true) : ∀ c as, errTb.lookup c = some as → ∀ C : Addr, PySem.W.nsIn K mainGlobals c = some (some (.ref C)) → ExcC K C := (exT_cons aC0 ⟨ga0, gg0, eC0, hC0, xa0, xn0, xt0, xm0⟩ (exT_cons aC1 ⟨ga1, gg1, eC1, hC1, xa1, xn1, xt1, xm1⟩ exT_nil))
theorem fa_o_NoNumber {h : Heap} (X : K.In h) (G : h.Ns mainGlobals mg) {C0 C1 T : Addr} (aC0 : PySem.W.nsIn K mainGlobals "NoStand" = some (some (.ref C0))) (aC1 : PySem.W.nsIn K mainGlobals "NoDeed" = some (some (.ref C1))) (aT : PySem.W.nsIn K mainGlobals "NoNumber" = some (some (.ref T))) (h2 : PySem.W.hasDictIn K T = true) (h3 : PySem.W.typeIn K (.ref T) = some (.type "type")) (ne0 : C0 ≠ T) (h40 : PySem.W.subIn K (.ref C0) (.ref T) = some false) (ne1 : C1 ≠ T) (h41 : PySem.W.subIn K (.ref C1) (.ref T) = some false) : OwnK K mg errTb "NoNumber" := ownK_ref (PySem.W.mg_of X G aT) (kitT_cons aC0 ((kit_ref ne0 h2 h3 h40).trans (by decide +kernel : some false = some ((["NoStand", "RingError", "ValueError"] : List Str).contains "NoNumber"))) (kitT_cons aC1 ((kit_ref ne1 h2 h3 h41).trans (by decide +kernel : some false = some ((["NoDeed", "RingError", "ValueError"] : List Str).contains "NoNumber"))) kitT_nil))
theorem fa_o_NoOrder {h : Heap} (X : K.In h) (G : h.Ns mainGlobals mg) {C0 C1 T : Addr} (aC0 : PySem.W.nsIn K mainGlobals "NoStand" = some (some (.ref C0))) (aC1 : PySem.W.nsIn K mainGlobals "NoDeed" = some (some (.ref C1))) (aT : PySem.W.nsIn K mainGlobals "NoOrder" = some (some (.ref T))) (h2 : PySem.W.hasDictIn K T = true) (h3 : PySem.W.typeIn K (.ref T) = some (.type "type")) (ne0 : C0 ≠ T) (h40 : PySem.W.subIn K (.ref C0) (.ref T) = some false) (ne1 : C1 ≠ T) (h41 : PySem.W.subIn K (.ref C1) (.ref T) = some false) : OwnK K mg errTb "NoOrder" := ownK_ref (PySem.W.mg_of X G aT) (kitT_cons aC0 ((kit_ref ne0 h2 h3 h40).trans (by decide +kernel : some false = some ((["NoStand", "RingError", "ValueError"] : List Str).contains "NoOrder"))) (kitT_cons aC1 ((kit_ref ne1 h2 h3 h41).trans (by decide +kernel : some false = some ((["NoDeed", "RingError", "ValueError"] : List Str).contains "NoOrder"))) kitT_nil))
theorem fa_o_NoBorder {h : Heap} (X : K.In h) (G : h.Ns mainGlobals mg) {C0 C1 T : Addr} (aC0 : PySem.W.nsIn K mainGlobals "NoStand" = some (some (.ref C0))) (aC1 : PySem.W.nsIn K mainGlobals "NoDeed" = some (some (.ref C1))) (aT : PySem.W.nsIn K mainGlobals "NoBorder" = some (some (.ref T))) (h2 : PySem.W.hasDictIn K T = true) (h3 : PySem.W.typeIn K (.ref T) = some (.type "type")) (ne0 : C0 ≠ T) (h40 : PySem.W.subIn K (.ref C0) (.ref T) = some false) (ne1 : C1 ≠ T) (h41 : PySem.W.subIn K (.ref C1) (.ref T) = some false) : OwnK K mg errTb "NoBorder" := ownK_ref (PySem.W.mg_of X G aT) (kitT_cons aC0 ((kit_ref ne0 h2 h3 h40).trans (by decide +kernel : some false = some ((["NoStand", "RingError", "ValueError"] : List Str).contains "NoBorder"))) (kitT_cons aC1 ((kit_ref ne1 h2 h3 h41).trans (by decide +kernel : some false = some ((["NoDeed", "RingError", "ValueError"] : List Str).contains "NoBorder"))) kitT_nil))
theorem fa_o_Nothing {h : Heap} (X : K.In h) (G : h.Ns mainGlobals mg) {C0 C1 T : Addr} (aC0 : PySem.W.nsIn K mainGlobals "NoStand" = some (some (.ref C0))) (aC1 : PySem.W.nsIn K mainGlobals "NoDeed" = some (some (.ref C1))) (aT : PySem.W.nsIn K mainGlobals "Nothing" = some (some (.ref T))) (h2 : PySem.W.hasDictIn K T = true) (h3 : PySem.W.typeIn K (.ref T) = some (.type "type")) (ne0 : C0 ≠ T) (h40 : PySem.W.subIn K (.ref C0) (.ref T) = some false) (ne1 : C1 ≠ T) (h41 : PySem.W.subIn K (.ref C1) (.ref T) = some false) : OwnK K mg errTb "Nothing" := ownK_ref (PySem.W.mg_of X G aT) (kitT_cons aC0 ((kit_ref ne0 h2 h3 h40).trans (by decide +kernel : some false = some ((["NoStand", "RingError", "ValueError"] : List Str).contains "Nothing"))) (kitT_cons aC1 ((kit_ref ne1 h2 h3 h41).trans (by decide +kernel : some false = some ((["NoDeed", "RingError", "ValueError"] : List Str).contains "Nothing"))) kitT_nil))
theorem fa_o_NoName {h : Heap} (X : K.In h) (G : h.Ns mainGlobals mg) {C0 C1 T : Addr} (aC0 : PySem.W.nsIn K mainGlobals "NoStand" = some (some (.ref C0))) (aC1 : PySem.W.nsIn K mainGlobals "NoDeed" = some (some (.ref C1))) (aT : PySem.W.nsIn K mainGlobals "NoName" = some (some (.ref T))) (h2 : PySem.W.hasDictIn K T = true) (h3 : PySem.W.typeIn K (.ref T) = some (.type "type")) (ne0 : C0 ≠ T) (h40 : PySem.W.subIn K (.ref C0) (.ref T) = some false) (ne1 : C1 ≠ T) (h41 : PySem.W.subIn K (.ref C1) (.ref T) = some false) : OwnK K mg errTb "NoName" := ownK_ref (PySem.W.mg_of X G aT) (kitT_cons aC0 ((kit_ref ne0 h2 h3 h40).trans (by decide +kernel : some false = some ((["NoStand", "RingError", "ValueError"] : List Str).contains "NoName"))) (kitT_cons aC1 ((kit_ref ne1 h2 h3 h41).trans (by decide +kernel : some false = some ((["NoDeed", "RingError", "ValueError"] : List Str).contains "NoName"))) kitT_nil))
theorem fa_o_Taken {h : Heap} (X : K.In h) (G : h.Ns mainGlobals mg) {C0 C1 T : Addr} (aC0 : PySem.W.nsIn K mainGlobals "NoStand" = some (some (.ref C0))) (aC1 : PySem.W.nsIn K mainGlobals "NoDeed" = some (some (.ref C1))) (aT : PySem.W.nsIn K mainGlobals "Taken" = some (some (.ref T))) (h2 : PySem.W.hasDictIn K T = true) (h3 : PySem.W.typeIn K (.ref T) = some (.type "type")) (ne0 : C0 ≠ T) (h40 : PySem.W.subIn K (.ref C0) (.ref T) = some false) (ne1 : C1 ≠ T) (h41 : PySem.W.subIn K (.ref C1) (.ref T) = some false) : OwnK K mg errTb "Taken" := ownK_ref (PySem.W.mg_of X G aT) (kitT_cons aC0 ((kit_ref ne0 h2 h3 h40).trans (by decide +kernel : some false = some ((["NoStand", "RingError", "ValueError"] : List Str).contains "Taken"))) (kitT_cons aC1 ((kit_ref ne1 h2 h3 h41).trans (by decide +kernel : some false = some ((["NoDeed", "RingError", "ValueError"] : List Str).contains "Taken"))) kitT_nil))
theorem fa_o_NoForm {h : Heap} (X : K.In h) (G : h.Ns mainGlobals mg) {C0 C1 T : Addr} (aC0 : PySem.W.nsIn K mainGlobals "NoStand" = some (some (.ref C0))) (aC1 : PySem.W.nsIn K mainGlobals "NoDeed" = some (some (.ref C1))) (aT : PySem.W.nsIn K mainGlobals "NoForm" = some (some (.ref T))) (h2 : PySem.W.hasDictIn K T = true) (h3 : PySem.W.typeIn K (.ref T) = some (.type "type")) (ne0 : C0 ≠ T) (h40 : PySem.W.subIn K (.ref C0) (.ref T) = some false) (ne1 : C1 ≠ T) (h41 : PySem.W.subIn K (.ref C1) (.ref T) = some false) : OwnK K mg errTb "NoForm" := ownK_ref (PySem.W.mg_of X G aT) (kitT_cons aC0 ((kit_ref ne0 h2 h3 h40).trans (by decide +kernel : some false = some ((["NoStand", "RingError", "ValueError"] : List Str).contains "NoForm"))) (kitT_cons aC1 ((kit_ref ne1 h2 h3 h41).trans (by decide +kernel : some false = some ((["NoDeed", "RingError", "ValueError"] : List Str).contains "NoForm"))) kitT_nil))
theorem fa_o_NoDeed {h : Heap} (X : K.In h) (G : h.Ns mainGlobals mg) {C0 C1 : Addr} (aC0 : PySem.W.nsIn K mainGlobals "NoStand" = some (some (.ref C0))) (aC1 : PySem.W.nsIn K mainGlobals "NoDeed" = some (some (.ref C1))) (h2 : PySem.W.hasDictIn K C1 = true) (h3 : PySem.W.typeIn K (.ref C1) = some (.type "type")) (ne0 : C0 ≠ C1) (h40 : PySem.W.subIn K (.ref C0) (.ref C1) = some false) : OwnK K mg errTb "NoDeed" := ownK_ref (PySem.W.mg_of X G aC1) (kitT_cons aC0 ((kit_ref ne0 h2 h3 h40).trans (by decide +kernel : some false = some ((["NoStand", "RingError", "ValueError"] : List Str).contains "NoDeed"))) (kitT_cons aC1 (kit_self.trans (by decide +kernel : some true = some ((["NoDeed", "RingError", "ValueError"] : List Str).contains "NoDeed"))) kitT_nil))
theorem fa_o_Forgotten {h : Heap} (X : K.In h) (G : h.Ns mainGlobals mg) {C0 C1 T : Addr} (aC0 : PySem.W.nsIn K mainGlobals "NoStand" = some (some (.ref C0))) (aC1 : PySem.W.nsIn K mainGlobals "NoDeed" = some (some (.ref C1))) (aT : PySem.W.nsIn K mainGlobals "Forgotten" = some (some (.ref T))) (h2 : PySem.W.hasDictIn K T = true) (h3 : PySem.W.typeIn K (.ref T) = some (.type "type")) (ne0 : C0 ≠ T) (h40 : PySem.W.subIn K (.ref C0) (.ref T) = some false) (ne1 : C1 ≠ T) (h41 : PySem.W.subIn K (.ref C1) (.ref T) = some false) : OwnK K mg errTb "Forgotten" := ownK_ref (PySem.W.mg_of X G aT) (kitT_cons aC0 ((kit_ref ne0 h2 h3 h40).trans (by decide +kernel : some false = some ((["NoStand", "RingError", "ValueError"] : List Str).contains "Forgotten"))) (kitT_cons aC1 ((kit_ref ne1 h2 h3 h41).trans (by decide +kernel : some false = some ((["NoDeed", "RingError", "ValueError"] : List Str).contains "Forgotten"))) kitT_nil))
theorem fa_o_NoDancer {h : Heap} (X : K.In h) (G : h.Ns mainGlobals mg) {C0 C1 T : Addr} (aC0 : PySem.W.nsIn K mainGlobals "NoStand" = some (some (.ref C0))) (aC1 : PySem.W.nsIn K mainGlobals "NoDeed" = some (some (.ref C1))) (aT : PySem.W.nsIn K mainGlobals "NoDancer" = some (some (.ref T))) (h2 : PySem.W.hasDictIn K T = true) (h3 : PySem.W.typeIn K (.ref T) = some (.type "type")) (ne0 : C0 ≠ T) (h40 : PySem.W.subIn K (.ref C0) (.ref T) = some false) (ne1 : C1 ≠ T) (h41 : PySem.W.subIn K (.ref C1) (.ref T) = some false) : OwnK K mg errTb "NoDancer" := ownK_ref (PySem.W.mg_of X G aT) (kitT_cons aC0 ((kit_ref ne0 h2 h3 h40).trans (by decide +kernel : some false = some ((["NoStand", "RingError", "ValueError"] : List Str).contains "NoDancer"))) (kitT_cons aC1 ((kit_ref ne1 h2 h3 h41).trans (by decide +kernel : some false = some ((["NoDeed", "RingError", "ValueError"] : List Str).contains "NoDancer"))) kitT_nil))
theorem fa_o_TooMany {h : Heap} (X : K.In h) (G : h.Ns mainGlobals mg) {C0 C1 T : Addr} (aC0 : PySem.W.nsIn K mainGlobals "NoStand" = some (some (.ref C0))) (aC1 : PySem.W.nsIn K mainGlobals "NoDeed" = some (some (.ref C1))) (aT : PySem.W.nsIn K mainGlobals "TooMany" = some (some (.ref T))) (h2 : PySem.W.hasDictIn K T = true) (h3 : PySem.W.typeIn K (.ref T) = some (.type "type")) (ne0 : C0 ≠ T) (h40 : PySem.W.subIn K (.ref C0) (.ref T) = some false) (ne1 : C1 ≠ T) (h41 : PySem.W.subIn K (.ref C1) (.ref T) = some false) : OwnK K mg errTb "TooMany" := ownK_ref (PySem.W.mg_of X G aT) (kitT_cons aC0 ((kit_ref ne0 h2 h3 h40).trans (by decide +kernel : some false = some ((["NoStand", "RingError", "ValueError"] : List Str).contains "TooMany"))) (kitT_cons aC1 ((kit_ref ne1 h2 h3 h41).trans (by decide +kernel : some false = some ((["NoDeed", "RingError", "ValueError"] : List Str).contains "TooMany"))) kitT_nil))
theorem fa_o_NoText {h : Heap} (X : K.In h) (G : h.Ns mainGlobals mg) {C0 C1 T : Addr} (aC0 : PySem.W.nsIn K mainGlobals "NoStand" = some (some (.ref C0))) (aC1 : PySem.W.nsIn K mainGlobals "NoDeed" = some (some (.ref C1))) (aT : PySem.W.nsIn K mainGlobals "NoText" = some (some (.ref T))) (h2 : PySem.W.hasDictIn K T = true) (h3 : PySem.W.typeIn K (.ref T) = some (.type "type")) (ne0 : C0 ≠ T) (h40 : PySem.W.subIn K (.ref C0) (.ref T) = some false) (ne1 : C1 ≠ T) (h41 : PySem.W.subIn K (.ref C1) (.ref T) = some false) : OwnK K mg errTb "NoText" := ownK_ref (PySem.W.mg_of X G aT) (kitT_cons aC0 ((kit_ref ne0 h2 h3 h40).trans (by decide +kernel : some false = some ((["NoStand", "RingError", "ValueError"] : List Str).contains "NoText"))) (kitT_cons aC1 ((kit_ref ne1 h2 h3 h41).trans (by decide +kernel : some false = some ((["NoDeed", "RingError", "ValueError"] : List Str).contains "NoText"))) kitT_nil))
theorem fa_o_ValueError {h : Heap} (X : K.In h) (G : h.Ns mainGlobals mg) {C0 C1 : Addr} (aC0 : PySem.W.nsIn K mainGlobals "NoStand" = some (some (.ref C0))) (aC1 : PySem.W.nsIn K mainGlobals "NoDeed" = some (some (.ref C1))) (zv : PySem.W.nsIn K mainGlobals "ValueError" = some none) (tv0 : PySem.W.subIn K (.ref C0) (.type "ValueError") = some true) (tv1 : PySem.W.subIn K (.ref C1) (.type "ValueError") = some true) : OwnK K mg errTb "ValueError" := ownK_ty (PySem.W.mg_none_of X G zv) PyProof.Rows.Boot.«ValueError» (by decide) (kitT_cons aC0 ((kit_ve tv0).trans (by decide +kernel : some true = some ((["NoStand", "RingError", "ValueError"] : List Str).contains "ValueError"))) (kitT_cons aC1 ((kit_ve tv1).trans (by decide +kernel : some true = some ((["NoDeed", "RingError", "ValueError"] : List Str).contains "ValueError"))) kitT_nil))
theorem fa_em_RingError {h : Heap} (X : K.In h) (G : h.Ns mainGlobals mg) {C0 C1 R : Addr} (aC0 : PySem.W.nsIn K mainGlobals "NoStand" = some (some (.ref C0))) (aC1 : PySem.W.nsIn K mainGlobals "NoDeed" = some (some (.ref C1))) (aR : PySem.W.nsIn K mainGlobals "RingError" = some (some (.ref R))) (s1 : PySem.W.subIn K (.ref R) (.type "BaseException") = some true) (s2 : PySem.W.hasDictIn K R = true) (s3 : PySem.W.typeIn K (.ref R) = some (.type "type")) (s40 : PySem.W.subIn K (.ref C0) (.ref R) = some true) (s41 : PySem.W.subIn K (.ref C1) (.ref R) = some true) : ExmT K mg errTb "RingError" := exmT_of (PySem.W.mg_of X G aR) (exmR_cons (PySem.W.mg_of X G aC0) ((PySem.W.exm_ref s1 s2 s3 s40).trans (by decide +kernel : some true = some ((["NoStand", "RingError", "ValueError"] : List Str).contains "RingError"))) (exmR_cons (PySem.W.mg_of X G aC1) ((PySem.W.exm_ref s1 s2 s3 s41).trans (by decide +kernel : some true = some ((["NoDeed", "RingError", "ValueError"] : List Str).contains "RingError"))) exmR_nil))
theorem fa_em_NoDeed {h : Heap} (X : K.In h) (G : h.Ns mainGlobals mg) {C0 C1 : Addr} (aC0 : PySem.W.nsIn K mainGlobals "NoStand" = some (some (.ref C0))) (aC1 : PySem.W.nsIn K mainGlobals "NoDeed" = some (some (.ref C1))) (s1 : PySem.W.subIn K (.ref C1) (.type "BaseException") = some true) (s2 : PySem.W.hasDictIn K C1 = true) (s3 : PySem.W.typeIn K (.ref C1) = some (.type "type")) (s40 : PySem.W.subIn K (.ref C0) (.ref C1) = some false) (s41 : PySem.W.subIn K (.ref C1) (.ref C1) = some true) : ExmT K mg errTb "NoDeed" := exmT_of (PySem.W.mg_of X G aC1) (exmR_cons (PySem.W.mg_of X G aC0) ((PySem.W.exm_ref s1 s2 s3 s40).trans (by decide +kernel : some false = some ((["NoStand", "RingError", "ValueError"] : List Str).contains "NoDeed"))) (exmR_cons (PySem.W.mg_of X G aC1) ((PySem.W.exm_ref s1 s2 s3 s41).trans (by decide +kernel : some true = some ((["NoDeed", "RingError", "ValueError"] : List Str).contains "NoDeed"))) exmR_nil))
theorem fa_n_at {h : Heap} (X : K.In h) (G : h.Ns mainGlobals mg) {C0 C1 : Addr} (aC0 : PySem.W.nsIn K mainGlobals "NoStand" = some (some (.ref C0))) (aC1 : PySem.W.nsIn K mainGlobals "NoDeed" = some (some (.ref C1))) (nf0 : PySem.W.findIn K (.ref C0) "at" = some none) (nf1 : PySem.W.findIn K (.ref C1) "at" = some none) : NoFld K errTb "at" := (noF_cons aC0 nf0 (noF_cons aC1 nf1 noF_nil))
theorem fa_kp_RingError {h : Heap} (X : K.In h) (G : h.Ns mainGlobals mg) {C0 C1 R : Addr} (aC0 : PySem.W.nsIn K mainGlobals "NoStand" = some (some (.ref C0))) (aC1 : PySem.W.nsIn K mainGlobals "NoDeed" = some (some (.ref C1))) (aR : PySem.W.nsIn K mainGlobals "RingError" = some (some (.ref R))) (s1 : PySem.W.subIn K (.ref R) (.type "BaseException") = some true) (s2 : PySem.W.hasDictIn K R = true) (s3 : PySem.W.typeIn K (.ref R) = some (.type "type")) (s40 : PySem.W.subIn K (.ref C0) (.ref R) = some true) (s41 : PySem.W.subIn K (.ref C1) (.ref R) = some true) : KeepX K mg "RingError" ["NoStand", "NoDeed"] := keepX_of (PySem.W.mg_of X G aR) (keepF_cons aC0 (PySem.W.mg_of X G aC0) (PySem.W.exm_ref s1 s2 s3 s40) (keepF_cons aC1 (PySem.W.mg_of X G aC1) (PySem.W.exm_ref s1 s2 s3 s41) keepF_nil))
theorem all_mk {l0 : PySem.W.OpenLaw} {w : World} {h : Heap} {fa : Addr} (X : K.In h) (G : h.Ns mainGlobals mg) (hfa : mg "law" = some (.ref fa)) (hB : Blts mg) (hG : Globs mg K)
    (d__law_jar : DefAt K mg "_law_jar" s__law_jar ["_law_script", "_law_k"]) (d__law_dip : DefAt K mg "_law_dip" s__law_dip ["_law_jar_here", "_law_below"]) (d__law_size : DefAt K mg "_law_size" s__law_size ["_law_jar_here", "_law_script", "_law_most"]) (d__law_ring : DefAt K mg "_law_ring" s__law_ring ["_law_size_here"]) (d__law_done : DefAt K mg "_law_done" s__law_done ["_law_here", "_law_act"]) (d__law_hands : DefAt K mg "_law_hands" s__law_hands ["_law_jar_here", "_law_size_here"]) (d__law_no_stand : DefAt K mg "_law_no_stand" s__law_no_stand ["_law_jar_here", "_law_here", "_law_size_here"]) (d__law_no_deed : DefAt K mg "_law_no_deed" s__law_no_deed ["_law_jar_here", "_law_size_here"]) (d_is_between : DefAt K mg "is_between" s_is_between ["thing", "least", "most"]) (d_is_stand : DefAt K mg "is_stand" s_is_stand ["thing"]) (d_need_stand : DefAt K mg "need_stand" s_need_stand ["stand"]) (d_word_of : DefAt K mg "word_of" s_word_of ["stand", "border"]) (d_words : DefAt K mg "words" s_words ["stand"]) (d_owners_in : DefAt K mg "owners_in" s_owners_in ["told"]) (d_fewest : DefAt K mg "fewest" s_fewest ["stand"]) (d_all_deeds : DefAt K mg "all_deeds" s_all_deeds ["stand"]) (d_is_deed : DefAt K mg "is_deed" s_is_deed ["thing", "most"]) (d_need_deeds : DefAt K mg "need_deeds" s_need_deeds ["deeds", "most"]) (d_copied : DefAt K mg "copied" s_copied ["stand"]) (d_dancers_of : DefAt K mg "dancers_of" s_dancers_of ["stand"]) (d_hands_by : DefAt K mg "hands_by" s_hands_by ["stand", "deed"]) (d_behind : DefAt K mg "behind" s_behind ["stand", "deeds"]) (d_nexts : DefAt K mg "nexts" s_nexts ["stand"]) (d_forgotten : DefAt K mg "forgotten" s_forgotten ["stand"]) (d_forgotten_ahead : DefAt K mg "forgotten_ahead" s_forgotten_ahead ["stand"]) (d_newly_forgotten : DefAt K mg "newly_forgotten" s_newly_forgotten ["stand", "deed", "ahead"]) (d_forgetting : DefAt K mg "forgetting" s_forgetting ["stand"]) (d_changed : DefAt K mg "changed" s_changed ["stand", "deed"]) (d_idle : DefAt K mg "idle" s_idle ["stand"]) (d_forgets : DefAt K mg "forgets" s_forgets ["stand", "deed"]) (d__law_word : DefAt K mg "_law_word" s__law_word ["_law_e"]) (d__law_asked : DefAt K mg "_law_asked" s__law_asked ["_law_door", "_law_here", "_law_one_deed"]) (e_NoDeed : ∀ (P : Program) (w : World) (base : Heap), ErrX P w K mg base "NoDeed" "at" "RingError") (r_NoStand : Raise0 K mg "NoStand") (o_NoStand : OwnK K mg errTb "NoStand") (o_E : ∀ c as, errTb.lookup c = some as → ∀ C : Addr, PySem.W.nsIn K mainGlobals c = some (some (.ref C)) → ExcC K C) (o_NoNumber : OwnK K mg errTb "NoNumber") (o_NoOrder : OwnK K mg errTb "NoOrder") (o_NoBorder : OwnK K mg errTb "NoBorder") (o_Nothing : OwnK K mg errTb "Nothing") (o_NoName : OwnK K mg errTb "NoName") (o_Taken : OwnK K mg errTb "Taken") (o_NoForm : OwnK K mg errTb "NoForm") (o_NoDeed : OwnK K mg errTb "NoDeed") (o_Forgotten : OwnK K mg errTb "Forgotten") (o_NoDancer : OwnK K mg errTb "NoDancer") (o_TooMany : OwnK K mg errTb "TooMany") (o_NoText : OwnK K mg errTb "NoText") (o_ValueError : OwnK K mg errTb "ValueError") (em_RingError : ExmT K mg errTb "RingError") (em_NoDeed : ExmT K mg errTb "NoDeed") (n_at : NoFld K errTb "at") (kp_RingError : KeepX K mg "RingError" ["NoStand", "NoDeed"])
    {f : Addr} {oc : Value} {od an : Option Addr} {osl : Array (Option Value)} {kV dc pm cd ct : Value} (a : PySem.W.nsIn K mainGlobals "law" = some (some (.ref f))) (l : K.lookup f = some ⟨oc, od, .func (PySem.W.fnOf "law" "law" (defArgs s_law) (defBody s_law) (defScope s_law) .none kV dc pm an cd ct), osl⟩) (c : PySem.W.codeIn K cd "law" = true) (k : PySem.W.keepIn K (.ref f) = true) :
    ∃ fd : FuncData, (∀ (s : Shared) (v : Value), BindsTo s fd ⟨[v], []⟩ [("_law_script", v)]) ∧ ∀ base : Heap, K.In base → base.Ns mainGlobals mg → FnG l0.prog w K mg base 9 fa fd ["_law_script"] (spN K mg 1 m_law) := by
  have e := hfa.symm.trans (PySem.W.mg_of X G a)
  cases e
  refine ⟨PySem.W.fnOf "law" "law" (defArgs s_law) (defBody s_law) (defScope s_law) .none kV dc pm an cd ct, fun s v => .of_eq rfl, fun base _ _ => ?_⟩
  have c__law_jar := ok__law_jar (P := l0.prog) (w := w) (base := base) hB hG d__law_jar 
  have c__law_dip := ok__law_dip (P := l0.prog) (w := w) (base := base) hB hG d__law_dip 
  have c__law_size := ok__law_size (P := l0.prog) (w := w) (base := base) hB hG d__law_size c__law_dip
  have c__law_ring := ok__law_ring (P := l0.prog) (w := w) (base := base) hB hG d__law_ring 
  have c__law_done := ok__law_done (P := l0.prog) (w := w) (base := base) hB hG d__law_done 
  have c__law_hands := ok__law_hands (P := l0.prog) (w := w) (base := base) hB hG d__law_hands c__law_ring c__law_dip c__law_done
  have c__law_no_stand := ok__law_no_stand (P := l0.prog) (w := w) (base := base) hB hG d__law_no_stand c__law_dip
  have c__law_no_deed := ok__law_no_deed (P := l0.prog) (w := w) (base := base) hB hG d__law_no_deed c__law_dip
  have c_is_between := ok_is_between (P := l0.prog) (w := w) (base := base) hB hG d_is_between 
  have c_is_stand := ok_is_stand (P := l0.prog) (w := w) (base := base) hB hG d_is_stand c_is_between
  have c_need_stand := ok_need_stand (P := l0.prog) (w := w) (base := base) hB hG d_need_stand c_is_stand r_NoStand
  have c_word_of := ok_word_of (P := l0.prog) (w := w) (base := base) hB hG d_word_of 
  have c_words := ok_words (P := l0.prog) (w := w) (base := base) hB hG d_words c_need_stand c_word_of
  have c_owners_in := ok_owners_in (P := l0.prog) (w := w) (base := base) hB hG d_owners_in 
  have c_fewest := ok_fewest (P := l0.prog) (w := w) (base := base) hB hG d_fewest c_words c_owners_in
  have c_all_deeds := ok_all_deeds (P := l0.prog) (w := w) (base := base) hB hG d_all_deeds 
  have c_is_deed := ok_is_deed (P := l0.prog) (w := w) (base := base) hB hG d_is_deed c_is_between
  have c_need_deeds := ok_need_deeds (P := l0.prog) (w := w) (base := base) hB hG d_need_deeds c_is_deed (e_NoDeed l0.prog w base)
  have c_copied := ok_copied (P := l0.prog) (w := w) (base := base) hB hG d_copied 
  have c_dancers_of := ok_dancers_of (P := l0.prog) (w := w) (base := base) hB hG d_dancers_of 
  have c_hands_by := ok_hands_by (P := l0.prog) (w := w) (base := base) hB hG d_hands_by 
  have c_behind := ok_behind (P := l0.prog) (w := w) (base := base) hB hG d_behind c_need_stand c_need_deeds c_copied c_dancers_of c_hands_by
  have c_nexts := ok_nexts (P := l0.prog) (w := w) (base := base) hB hG d_nexts c_fewest c_all_deeds c_behind
  have c_forgotten := ok_forgotten (P := l0.prog) (w := w) (base := base) hB hG d_forgotten c_words
  have c_forgotten_ahead := ok_forgotten_ahead (P := l0.prog) (w := w) (base := base) hB hG d_forgotten_ahead c_forgotten
  have c_newly_forgotten := ok_newly_forgotten (P := l0.prog) (w := w) (base := base) hB hG d_newly_forgotten c_forgotten c_behind
  have c_forgetting := ok_forgetting (P := l0.prog) (w := w) (base := base) hB hG d_forgetting c_forgotten_ahead c_all_deeds c_newly_forgotten
  have c_changed := ok_changed (P := l0.prog) (w := w) (base := base) hB hG d_changed c_need_stand c_need_deeds c_hands_by c_dancers_of
  have c_idle := ok_idle (P := l0.prog) (w := w) (base := base) hB hG d_idle c_forgotten c_all_deeds c_changed
  have c_forgets := ok_forgets (P := l0.prog) (w := w) (base := base) hB hG d_forgets c_newly_forgotten c_forgotten_ahead
  have c__law_word := ok__law_word (P := l0.prog) (w := w) (base := base) hB hG d__law_word o_NoStand o_E o_NoNumber o_NoOrder o_NoBorder o_Nothing o_NoName o_Taken o_NoForm o_NoDeed o_Forgotten o_NoDancer o_TooMany o_NoText o_ValueError
  have cQ__law_word := okQ__law_word (P := l0.prog) (w := w) (base := base) hB hG d__law_word o_NoStand o_E o_NoNumber o_NoOrder o_NoBorder o_Nothing o_NoName o_Taken o_NoForm o_NoDeed o_Forgotten o_NoDancer o_TooMany o_NoText o_ValueError
  have c__law_asked := ok__law_asked (P := l0.prog) (w := w) (base := base) hB hG d__law_asked c_nexts c_forgetting c_idle c_forgets c__law_word em_RingError em_NoDeed o_E n_at kp_RingError cQ__law_word
  exact ok_law hB hG (fun_mk l c k) c__law_jar c__law_size c__law_hands c__law_no_stand c__law_no_deed c__law_asked c__law_dip
end
end Tk

namespace Tk
open PySem PySem.Spec PyProof.Rows L2 Nv
local macro_rules | `(tactic| walk_at "sp") => `(tactic| with_unfolding_all first | (exact (by simp only [pmV_nil, List.length_cons, List.length_nil, Nat.reduceAdd, if_true, List.filterMap_cons, List.filterMap_nil, List.getElem?_cons_zero, List.getElem?_cons_succ]; rfl)) | rfl)
local macro_rules | `(tactic| walk_at "sn") => `(tactic| with_unfolding_all first | (exact (by simp only [List.set_cons_zero, List.set_cons_succ]; rfl)) | rfl)
local macro_rules | `(tactic| walk_at "sr") => `(tactic| with_unfolding_all first | (exact (by simp only [List.map_cons, List.map_nil, List.length_cons, List.length_nil, Nat.reduceAdd, Nat.reduceSub, List.reduceReplicate, List.cons_append, List.nil_append]; rfl)) | rfl)
local macro_rules | `(tactic| walk_at "sw") => `(tactic| with_unfolding_all first | (exact (by simp only [wipeS, List.set_cons_zero, List.set_cons_succ]; rfl)) | rfl)
local macro_rules | `(tactic| walk_at "sd") => `(tactic| first | assumption | decide | omega | (simp (config := { failIfUnchanged := false }) [rgD_length, rgDown_length, enumD_length, pairsLen] <;> omega))
local macro_rules | `(tactic| walk_at "lo") => `(tactic| (refine low_of ?_ ?_ <;> walk_at "sd"))
local macro_rules | `(tactic| walk_at "le") => `(tactic| (refine len_le ?_ <;> walk_at "sd"))
local macro_rules | `(tactic| walk_at "cl") => `(tactic| with_unfolding_all first | assumption | rfl | exact at_app | exact at_app0 | exact at_lo (by assumption) | exact get_set_self at_app0 | exact get_set_self at_app | exact get_set_self (by assumption) | exact get_set_self (by rfl))
local macro_rules | `(tactic| walk_at "evs") => `(tactic| with_reducible first
  | refine w_seq ?_ | refine w_then ?_ | refine w_thenR ?_ | refine w_thenB ?_ | refine w_thenC ?_ | refine w_nil ?_ | refine w_bk ?_ | refine w_ct ?_ | refine w_drop ?_ | refine w_ret ?_ | refine w_retN ?_ | refine w_asg ?_ | refine w_gmNn (by walk_at "sn") ?_ | refine w_gmN ?_ | refine w_gmNil ?_ | refine w_gmCons ?_ | refine w_gmTup (by with_unfolding_all rfl) ?_ | refine w_gmSqT (by with_unfolding_all rfl) ?_ | refine w_gmSqL (by with_unfolding_all rfl) ?_ | refine w_parn ?_ | refine slset_i (by walk_at "sn") ?_ | refine w_aug (by with_unfolding_all rfl) ?_ | refine w_gmSub ?_
  | refine w_var (by with_unfolding_all rfl) ?_ | refine w_c ?_ | refine w_2 ?_ | refine w_1 ?_ | refine w_T ?_ | refine w_tAnd ?_ | refine w_tOr ?_ | refine w_tNot ?_ | refine w_and ?_ | refine w_or ?_ | refine w_not ?_ | refine w_if ?_ | refine w_ch ?_ | refine w_aNil ?_ | refine w_aCons ?_ | refine w_lst ?_ | refine w_tup ?_ | refine w_mt ?_ | refine w_mt0 ?_ | refine w_rep ?_ | refine w_cb ?_ | refine w_newF ?_ | refine w_newC ?_ | refine w_sl ?_ | refine w_oNone ?_ | refine w_oSome ?_
  | refine w_F ?_ | refine w_FK ?_ | refine pm_i (by walk_at "sp") ?_
  | refine w_sFor ?_ | refine w_gc ?_ | refine gc_r ?_ | refine gc_b ?_ | refine w_runKn (by walk_at "sr") ?_ | refine w_runK ?_ | refine w_mLc ?_ | refine w_iLst ?_ | refine w_iRg1 ?_ | refine w_iRg2 ?_ | refine w_iRg3 ?_ | refine w_iEn ?_ | refine w_iZp ?_ | refine w_tTrue ?_
  | refine w_isC (by with_unfolding_all rfl) ?_ | refine w_isNotC (by with_unfolding_all rfl) ?_ | refine w_isiT (by with_unfolding_all first | assumption | rfl) (by decide +kernel) ?_ | refine w_isiF (by with_unfolding_all first | assumption | rfl) (by decide +kernel) ?_ | refine w_isiLT (by with_unfolding_all first | assumption | rfl) (by decide +kernel) ?_ | refine w_isiLF (by with_unfolding_all first | assumption | rfl) (by decide +kernel) ?_
  | refine ite_t (by with_unfolding_all first | rfl | assumption) ?_ | refine ite_f (by with_unfolding_all first | rfl | assumption) ?_
  | refine w_iTp ?_ | refine tup_t ?_ | refine lstG_l ?_ | refine lstG_c (by walk_at "cl") ?_ | refine one_1 ?_ | refine one_i ?_
  | refine bl_b ?_ | refine int_i ?_ | refine par_2 ?_
  | refine w_addI ?_ | refine w_subI ?_ | refine w_negI ?_ | refine w_ltI ?_ | refine w_leI ?_ | refine w_gtI ?_ | refine w_geI ?_ | refine w_eqI ?_ | refine w_neI ?_ | refine w_eqS ?_ | refine w_neS ?_ | refine w_eqB ?_ | refine w_neB ?_
  | refine w_mulI (by with_unfolding_all first | with_reducible assumption | (right; left; with_reducible assumption) | (left; with_reducible assumption) | (left; decide) | (right; left; decide) | assumption) ?_ | refine w_modI (by with_unfolding_all first | assumption | decide) ?_ | refine w_divI (by with_unfolding_all first | assumption | decide) (by with_unfolding_all first | assumption | decide) ?_ | refine w_powI (by with_unfolding_all decide) (by with_unfolding_all decide) (by with_unfolding_all first | assumption | decide) (by with_unfolding_all first | assumption | decide) ?_
  | refine w_ixL (by with_unfolding_all first | assumption | rfl) ?_ | refine w_ixT (by with_unfolding_all first | assumption | rfl) ?_ | refine w_ixC (by walk_at "cl") (by with_unfolding_all first | assumption | rfl) ?_
  | refine w_set (by walk_at "cl") (by with_unfolding_all first | assumption | rfl) ?_ | refine w_append (by walk_at "cl") (by first | assumption | exact lt0 | exact lt1 | exact lt1a) ?_ | refine w_lenL ?_ | refine w_lenT ?_ | refine w_lenC (by walk_at "cl") ?_ | refine w_max2 ?_ | refine w_min2 ?_ | refine w_intI ?_ | refine w_intB ?_ | refine w_runn (by walk_at "sr") ?_ | refine w_run ?_
  | refine len_and (by with_unfolding_all rfl) ?_ | refine low_and (by first | assumption | decide) ?_ | refine le_and (by first | assumption | exact le0 | exact le1 | exact le2 | exact le3 | exact le4 | exact le5 | exact le6 | exact le7 | exact le8) ?_ | refine w_lcNil ?_ | refine w_lcCons ?_ | refine isL_and (by with_unfolding_all first | assumption | rfl) ?_ | refine isS_and (by with_unfolding_all rfl) ?_
  | refine IsLst.len (by assumption) ?_ | refine IsLst.ix (by assumption) (by with_unfolding_all first | assumption | rfl) ?_ | refine w_forq ?_ | refine w_forqR ?_ | refine w_forqC ?_ | refine w_forqB ?_ | refine low_and (by walk_at "lo") ?_ | refine le_and (by walk_at "le") ?_)
local macro_rules | `(tactic| walk_at "ev") => `(tactic| first | with_reducible refine w_sif ?_ | walk_at "evs")
local macro_rules | `(tactic| walk_at "evp") => `(tactic| first
  | with_reducible apply w_andV | with_reducible apply w_orV | with_reducible apply w_tAndV | with_reducible apply w_tOrV | exact ⟨rfl, rfl⟩ | walk_at "ev")
local macro_rules | `(tactic| walk_at "evq") => `(tactic| first
  | with_reducible apply w_andV | with_reducible apply w_orV | with_reducible apply w_tAndV | with_reducible apply w_tOrV | exact ⟨rfl, rfl⟩ | walk_at "evs")

abbrev iL (l : List Int) : Cell := .lst (l.map D.int)
@[simp] theorem closed_iL (n : Nat) (l : List Int) : closedC n (iL l) = true := closedDs_ints n l
@[simp] theorem closed_iL' (n : Nat) (l : List Int) : closedC n (.lst (l.map D.int)) = true := closedDs_ints n l
structure Vs (rs ls : List Int) : Prop where
  len : ls.length = rs.length
  two : 2 ≤ rs.length
  top : rs.length ≤ 202
  r : ∀ (i : Nat) (x : Int), rs[i]? = some x → i + 1 ≤ x ∧ x ≤ rs.length
  l : ∀ (i : Nat) (x : Int), ls[i]? = some x → 0 ≤ x ∧ x ≤ i
theorem get_ex {A : Type} {l : List A} {i : Nat} (h : i < l.length) : ∃ x, l[i]? = some x := ⟨l[i], List.getElem?_eq_getElem h⟩
theorem getD_of {l : List Int} {i : Nat} {x : Int} (h : l[i]? = some x) : l.getD i 0 = x := by rw [List.getD_eq_getElem?_getD, h]; rfl
theorem Vs.setR {rs ls : List Int} {i : Nat} {x : Int} (h : Vs rs ls) (h1 : i + 1 ≤ x) (h2 : x ≤ rs.length) : Vs (rs.set i x) ls := by
  refine ⟨by simp [h.len], by simpa using h.two, by simpa using h.top, fun j y hj => ?_, h.l⟩
  rw [List.getElem?_set] at hj
  rw [List.length_set]
  split at hj
  · rename_i e
    subst e
    split at hj
    · cases hj
      exact ⟨h1, h2⟩
    · cases hj
  · exact h.r j y hj
theorem Vs.setL {rs ls : List Int} {i : Nat} {x : Int} (h : Vs rs ls) (h1 : 0 ≤ x) (h2 : x ≤ i) : Vs rs (ls.set i x) := by
  refine ⟨by simp [h.len], h.two, h.top, h.r, fun j y hj => ?_⟩
  rw [List.getElem?_set] at hj
  split at hj
  · rename_i e
    subst e
    split at hj
    · cases hj
      exact ⟨h1, h2⟩
    · cases hj
  · exact h.l j y hj
theorem Vs.sm1 {rs ls : List Int} (v : Vs rs ls) : ∀ x ∈ rs, smI x := fun x hx => by
  obtain ⟨i, hi, e⟩ := List.getElem_of_mem hx
  have h1 := v.r i x (by rw [List.getElem?_eq_getElem hi, e])
  have := v.top
  exact ⟨by omega, by omega⟩
theorem Vs.sm2 {rs ls : List Int} (v : Vs rs ls) : ∀ x ∈ ls, smI x := fun x hx => by
  obtain ⟨i, hi, e⟩ := List.getElem_of_mem hx
  have h1 := v.l i x (by rw [List.getElem?_eq_getElem hi, e])
  have := v.top
  have := v.len
  exact ⟨by omega, by omega⟩
/-- whom i holds by the right hand, whom by the left (of i + 1) -/
theorem Vs.rx {rs ls : List Int} (v : Vs rs ls) {i : Int} (h0 : 0 ≤ i) (h1 : i < rs.length) : ∃ x, rs[i.toNat]? = some x ∧ atI (rs.map D.int) i = some (.int x) ∧ i + 1 ≤ x ∧ x ≤ rs.length ∧ rs.getD i.toNat 0 = x := by
  obtain ⟨x, hx⟩ := get_ex (l := rs) (i := i.toNat) (by omega)
  have := v.r _ _ hx
  exact ⟨x, hx, atI_map h0 hx, by omega, by omega, getD_of hx⟩
theorem Vs.lx {rs ls : List Int} (v : Vs rs ls) {i : Int} (h0 : 0 ≤ i) (h1 : i < rs.length) : ∃ x, ls[i.toNat]? = some x ∧ atI (ls.map D.int) i = some (.int x) ∧ 0 ≤ x ∧ x ≤ i ∧ ls.getD i.toNat 0 = x := by
  have hl := v.len
  obtain ⟨x, hx⟩ := get_ex (l := ls) (i := i.toNat) (by omega)
  have := v.l _ _ hx
  exact ⟨x, hx, atI_map h0 hx, by omega, by omega, getD_of hx⟩
abbrev sD (rs ls : List Int) : D := .tup [.lst (rs.map D.int), .lst (ls.map D.int)]
/-- a stand, of lists or cells -/
def IsSt (C : Store) (x : D) (rs ls : List Int) : Prop := ∃ a b, x = .tup [a, b] ∧ IsLst C a (rs.map D.int) ∧ IsLst C b (ls.map D.int)
theorem IsSt.f {C : Store} (rs ls : List Int) : IsSt C (sD rs ls) rs ls := ⟨_, _, rfl, .f _, .f _⟩
theorem IsSt.c {C : Store} {i j : Nat} {rs ls : List Int} (h1 : C[i]? = some (iL rs)) (h2 : C[j]? = some (iL ls)) : IsSt C (.tup [.cell i, .cell j]) rs ls := ⟨_, _, rfl, .c _ _ h1, .c _ _ h2⟩
theorem IsSt.app {C X : Store} {x : D} {rs ls : List Int} (h : IsSt C x rs ls) : IsSt (C ++ X) x rs ls := by
  obtain ⟨a, b, e, h1, h2⟩ := h
  exact ⟨a, b, e, h1.app, h2.app⟩
theorem Shw.stand {rs ls : List Int} (v : Vs rs ls) : Shw (sD rs ls) 17000 2 (.tuple [.list (rs.map PyData.int), .list (ls.map PyData.int)]) := by
  have h := Shw.tup2 (Shw.ints v.sm1) (Shw.ints v.sm2)
  have h1 := v.top
  have h2 := v.len
  exact ⟨h.to, h.sh, h.la, h.de, Nat.le_trans h.we (by omega), h.si⟩
theorem Alk.stand {C : Store} {n : Nat} {x y : D} {rs ls : List Int} (v : Vs rs ls) (hx : IsSt C x rs ls) (hy : IsSt C y rs ls) : Alk C (n + 3) x y := by
  obtain ⟨a, b, rfl, h1, h2⟩ := hx
  obtain ⟨a', b', rfl, h3, h4⟩ := hy
  have t1 := v.top
  have t2 := v.len
  exact Alk.tup2 (Alk.ints h1 h3 (by omega)) (Alk.ints h2 h4 (by omega))
/-- the whole ring -/
def whR (n : Nat) : List Int := (List.range (n + 1)).map fun i : Nat => 1 + (i : Int)
def whL (n : Nat) : List Int := (List.range (n + 1)).map fun i : Nat => (i : Int)
theorem whR_get {n i : Nat} (h : i < n + 1) : (whR n)[i]? = some (1 + (i : Int)) := by simp [whR, h]
theorem whL_get {n i : Nat} (h : i < n + 1) : (whL n)[i]? = some (i : Int) := by simp [whL, h]
theorem whR_len (n : Nat) : (whR n).length = n + 1 := by simp [whR]
theorem whL_len (n : Nat) : (whL n).length = n + 1 := by simp [whL]
theorem wh_vs {n : Nat} (h1 : 1 ≤ n) (h2 : n ≤ 201) : Vs (whR n) (whL n) := by
  refine ⟨by rw [whR_len, whL_len], by rw [whR_len]; omega, by rw [whR_len]; omega, fun i x h => ?_, fun i x h => ?_⟩
  · have hi := (List.getElem?_eq_some_iff.mp h).1
    rw [whR_len] at hi ⊢
    rw [whR_get hi] at h
    cases h
    omega
  · have hi := (List.getElem?_eq_some_iff.mp h).1
    rw [whL_len] at hi
    rw [whL_get hi] at h
    cases h
    omega
theorem rg_whR (n : Nat) : rangeD 1 (n + 2 : Int) = (whR n).map D.int := by
  unfold rangeD whR
  rw [show ((n : Int) + 2 - 1).toNat = n + 1 from by omega]
  simp
theorem rg_whL (n : Nat) : rangeD 0 (n + 1 : Int) = (whL n).map D.int := by
  unfold rangeD whL
  rw [show ((n : Int) + 1 - 0).toNat = n + 1 from by omega]
  simp


/-- a jar, dipped into at most m times -/
def Jd (m : Nat) (c : Cell) : Prop := ∃ a b k : Int, c = .lst [.int a, .int b, .int k] ∧ 0 ≤ b ∧ b < 10 ^ 70 ∧ 0 ≤ k ∧ k ≤ m
theorem Jd.closed {m : Nat} {c : Cell} (h : Jd m c) (n : Nat) : closedC n c = true := by
  obtain ⟨a, b, k, rfl, _⟩ := h
  rfl
theorem Jd.mono {m n : Nat} {c : Cell} (h : Jd m c) (hn : m ≤ n) : Jd n c := by
  obtain ⟨a, b, k, e, h1, h2, h3, h4⟩ := h
  exact ⟨a, b, k, e, h1, h2, h3, by omega⟩
section
variable {C G X : Store} {k m : Nat} {n : Int} {S : Cell} {QD : D → Store → Prop}
theorem dip_ok (hm : m ≤ 1000000) (hC : C[k]? = some S) (h : Jd m S) (h0 : 0 < n) (h1 : n ≤ 10 ^ 60) (q : ∀ (r : Int) (S' : Cell), 0 ≤ r → r < n → Jd (m + 1) S' → QD (.int r) (C.set k S')) : W (m__law_dip [.cell k, .int n] C) QD := by
  obtain ⟨a, b, c, rfl, hb, hb2, hc, hc2⟩ := h
  unfold m__law_dip
  repeat' walk_at "ev"
  by_cases ha0 : 0 < a
  · refine ite_t (by simpa using ha0) ?_
    repeat' walk_at "ev"
    exact fin_set1 rfl rfl rfl (q _ _ (Int.emod_nonneg _ (by omega)) (Int.emod_lt_of_pos _ h0) ⟨_, _, _, rfl, hb, hb2, hc, by omega⟩)
  · refine ite_f (by simpa using ha0) ?_
    have hk : (C.set k (.lst [.int a, .int b, .int (c + 1)]))[k]? = some (.lst [.int a, .int b, .int (c + 1)]) := get_set_self hC
    have hs : smallI (c + 1) = true := by
      unfold smallI
      rw [Bool.and_eq_true]
      exact ⟨decide_eq_true (by omega), decide_eq_true (by omega)⟩
    have hsq : 0 ≤ 40503 * (c + 1) * (c + 1) ∧ 40503 * (c + 1) * (c + 1) ≤ 40503 * 1000001 * 1000001 := by
      have t1 : 0 ≤ 40503 * (c + 1) := by omega
      have t2 : 40503 * (c + 1) ≤ 40503 * 1000001 := by omega
      exact ⟨Int.mul_nonneg t1 (by omega), Int.mul_le_mul t2 (by omega) (by omega) (by decide)⟩
    have p1 : -powLine < b + 40503 * (c + 1) * (c + 1) + 11 := by unfold powLine; omega
    have p2 : b + 40503 * (c + 1) * (c + 1) + 11 < powLine := by unfold powLine; omega
    repeat' walk_at "ev"
    have g0 := Int.emod_nonneg ((b + 40503 * (c + 1) * (c + 1) + 11) ^ Int.toNat 3) (b := 2305843009213693951) (by decide)
    have g1 := Int.emod_lt_of_pos ((b + 40503 * (c + 1) * (c + 1) + 11) ^ Int.toNat 3) (b := 2305843009213693951) (by decide)
    generalize (b + 40503 * (c + 1) * (c + 1) + 11) ^ Int.toNat 3 % 2305843009213693951 = G at g0 g1 ⊢
    have p3 : -powLine < G + 69621 * (c + 1) := by unfold powLine; omega
    have p4 : G + 69621 * (c + 1) < powLine := by unfold powLine; omega
    repeat' walk_at "ev"
    exact fin_set1 rfl rfl rfl (q _ _ (Int.emod_nonneg _ (by omega)) (Int.emod_lt_of_pos _ h0) ⟨_, _, _, rfl, hb, hb2, by omega, by omega⟩)
theorem dip_c0 (hm : m ≤ 1000000) (h : Jd m S) (h0 : 0 < n) (h1 : n ≤ 10 ^ 60) (q : ∀ (r : Int) (S' : Cell), 0 ≤ r → r < n → Jd (m + 1) S' → QD (.int r) (S' :: G)) : W (m__law_dip [.cell 0, .int n] (S :: G)) QD :=
  dip_ok (C := S :: G) (S := S) hm rfl h h0 h1 fun r S' r0 r1 hS' => q r S' r0 r1 hS'
theorem jarD_ok {ns : List Int} {i : Nat} (hi : i ≤ 1000) (q : ∀ S', Jd 0 S' → QD (.cell C.length) (C ++ [S'])) : W (m__law_jar [.lst (ns.map D.int), .int i] C) QD := by
  have fin : ∀ cell : Int, W (fin C (.cell C.length) (C ++ [.lst [.int (max 0 (cell - 10 ^ Int.toNat 18)), .int (cell % (10 ^ Int.toNat 60 + 7) * 64 + (i : Int) % 64), .int 0]])) QD := fun cell => by
    have g0 := Int.emod_nonneg cell (b := 10 ^ Int.toNat 60 + 7) (by decide)
    have g1 := Int.emod_lt_of_pos cell (b := 10 ^ Int.toNat 60 + 7) (by decide)
    have g2 := Int.emod_nonneg (i : Int) (b := 64) (by decide)
    have g3 := Int.emod_lt_of_pos (i : Int) (b := 64) (by decide)
    generalize cell % (10 ^ Int.toNat 60 + 7) = G at g0 g1 ⊢
    rw [show Int.toNat 60 = 60 from rfl] at g1
    generalize (i : Int) % 64 = J at g2 g3 ⊢
    exact W.of (fin_cell0 rfl) (q _ ⟨_, _, _, rfl, by omega, by omega, by decide, by decide⟩)
  unfold m__law_jar
  repeat' walk_at "ev"
  by_cases h : i < ns.length
  · obtain ⟨z, hz⟩ := get_ex h
    have az : atI (ns.map D.int) (i : Int) = some (.int z) := Nv.atI_nat (by rw [List.getElem?_map, hz]; rfl)
    refine ite_t (decide_eq_true (by rw [List.length_map]; omega)) ?_
    repeat' walk_at "ev"
    exact fin z
  · refine ite_f (decide_eq_false (by rw [List.length_map]; omega)) ?_
    repeat' walk_at "ev"
    exact fin 0
theorem sizeD_ok {ns : List Int} {most : Int} (hm : m ≤ 1000000) (h : Jd m S) (hG : ClS G) (m0 : 1 ≤ most) (m1 : most ≤ 1000) (q : ∀ (r : Nat) (S' : Cell), 1 ≤ r → (r : Int) ≤ max 3 most → Jd (m + 1) S' → QD (.int r) (S' :: G)) : W (m__law_size [.cell 0, .lst (ns.map D.int), .int most] (S :: G)) QD := by
  unfold m__law_size
  repeat' walk_at "ev"
  refine w_eqLI (m := []) ?_
  repeat' walk_at "ev"
  refine ite_cut (fun (x : D) C' => ∃ b : Int, x = .int b ∧ C' = S :: G ∧ 1 ≤ b ∧ b ≤ max 3 most) (fun _ => ?_) (fun _ => ?_) ?_
  · repeat' walk_at "ev"
    exact ⟨rfl, by decide, by omega⟩
  · repeat' walk_at "ev"
    exact ⟨rfl, m0, by omega⟩
  rintro x C' ⟨b, rfl, rfl, b0, b1⟩
  repeat' walk_at "ev"
  refine dip_c0 hm h (by omega) (by omega) fun r S' r0 r1 hS' => ?_
  obtain ⟨r, rfl⟩ : ∃ t : Nat, r = t := ⟨r.toNat, by omega⟩
  repeat' walk_at "ev"
  rw [show (1 : Int) + (r : Int) = ((r + 1 : Nat) : Int) from by omega]
  exact fin_closed10 rfl (ClS.cons (hS'.closed 0) hG) rfl (q (r + 1) S' (by omega) (by omega) hS')
end


section
variable {rs ls : List Int} {C : Store} {QD : D → Store → Prop} {x : D}
theorem between_ok {x a b : Int} (q : QD (.bl (decide (a ≤ x ∧ x ≤ b))) C) : W (m_is_between [.int x, .int a, .int b] C) QD := by
  unfold m_is_between
  repeat' walk_at "ev"
  refine w_ite (fun e => ?_) (fun e => ?_)
  · repeat' walk_at "ev"
    refine fin_same rfl rfl ?_
    rw [show decide (a ≤ x ∧ x ≤ b) = decide (x ≤ b) from by have := of_decide_eq_true e; simp [this]] at q
    exact q
  · repeat' walk_at "ev"
    refine fin_same rfl rfl ?_
    rw [show decide (a ≤ x ∧ x ≤ b) = false from by have := of_decide_eq_false e; simp [this]] at q
    exact q
theorem stand_ok (hx : IsSt C x rs ls) (v : Vs rs ls) (q : QD (.bl true) C) : W (m_is_stand [x] C) QD := by
  obtain ⟨a, b, rfl, ha, hb⟩ := hx
  have ta := ha.ty
  have tb := hb.ty
  have h2 := v.two
  have h3 := v.top
  have h4 := v.len
  unfold m_is_stand
  repeat' walk_at "ev"
  refine w_all (bs := [true, true]) ?_
  repeat' walk_at "ev"
  refine ite_f (by simp; omega) ?_
  repeat' walk_at "ev"
  refine ite_f (by simp; omega) ?_
  repeat' walk_at "ev"
  refine w_lcTrue (fun i d hd => ?_) ?_
  · obtain ⟨h, rfl⟩ := rgD_get hd
    obtain ⟨x, hx, a1, b1, b2, _⟩ := v.rx (i := i) (by omega) (by simpa using h)
    repeat' walk_at "ev"
    refine between_ok ⟨?_, rfl⟩
    simp
    omega
  repeat' walk_at "ev"
  refine w_all ?_
  rw [all_true]
  repeat' walk_at "ev"
  refine w_lcTrue (fun i d hd => ?_) ?_
  · obtain ⟨h, rfl⟩ := rgD_get hd
    obtain ⟨x, hx, a1, b1, b2, _⟩ := v.lx (i := i) (by omega) (by simpa using h)
    repeat' walk_at "ev"
    refine between_ok ⟨?_, rfl⟩
    simp
    omega
  repeat' walk_at "ev"
  refine w_all ?_
  rw [all_true]
  exact fin_same rfl rfl q
theorem need_ok (hx : IsSt C x rs ls) (v : Vs rs ls) (q : QD .non C) : W (m_need_stand [x] C) QD := by
  unfold m_need_stand
  repeat' walk_at "ev"
  refine stand_ok hx v ?_
  repeat' walk_at "ev"
  exact fin_same rfl rfl q
end


/-- the word of a border -/
def wordP (r l b : Int) : Str := if r = b + 1 then (if l = b then "held" else "left") else (if l = b then "right" else "forgotten")
section
variable {rs ls : List Int} {C : Store} {QD : D → Store → Prop} {x : D}
def wAt (rs ls : List Int) (i : Nat) : Str := wordP (rs.getD i 0) (ls.getD i 0) i
def wordsOf (rs ls : List Int) : List Str := (List.range rs.length).map (wAt rs ls)
theorem words_map : (List.range rs.length).map (fun i => D.str (wAt rs ls i)) = (wordsOf rs ls).map D.str := by
  unfold wordsOf
  rw [List.map_map]
  rfl
theorem words_len : (wordsOf rs ls).length = rs.length := by simp [wordsOf]
theorem words_get {i : Nat} (h : i < rs.length) : (wordsOf rs ls)[i]? = some (wAt rs ls i) := by simp [wordsOf, h]
theorem word_ok {i : Nat} (v : Vs rs ls) (hx : IsSt C x rs ls) (hi : i < rs.length) (q : QD (.str (wAt rs ls i)) C) : W (m_word_of [x, .int i] C) QD := by
  obtain ⟨a, b, rfl, ha, hb⟩ := hx
  obtain ⟨r, hr, a1, _, _, er⟩ := v.rx (i := i) (by omega) (by omega)
  obtain ⟨l, hl, a2, _, _, el⟩ := v.lx (i := i) (by omega) (by omega)
  rw [Int.toNat_natCast] at er el
  unfold wAt at q
  rw [er, el] at q
  unfold m_word_of
  repeat' walk_at "ev"
  unfold wordP at q
  by_cases h1 : r = (i : Int) + 1 <;> by_cases h2 : l = (i : Int)
  · rw [if_pos h1, if_pos h2] at q
    refine ite_t (decide_eq_true h1) ?_
    repeat' walk_at "ev"
    refine ite_t (decide_eq_true h2) ?_
    repeat' walk_at "ev"
    exact fin_same rfl rfl q
  · rw [if_pos h1, if_neg h2] at q
    refine ite_t (decide_eq_true h1) ?_
    repeat' walk_at "ev"
    refine ite_f (decide_eq_false h2) ?_
    repeat' walk_at "ev"
    exact fin_same rfl rfl q
  · rw [if_neg h1, if_pos h2] at q
    refine ite_f (decide_eq_false h1) ?_
    repeat' walk_at "ev"
    refine ite_t (decide_eq_true h2) ?_
    repeat' walk_at "ev"
    exact fin_same rfl rfl q
  · rw [if_neg h1, if_neg h2] at q
    refine ite_f (decide_eq_false h1) ?_
    repeat' walk_at "ev"
    refine ite_f (decide_eq_false h2) ?_
    repeat' walk_at "ev"
    exact fin_same rfl rfl q
theorem words_ok (v : Vs rs ls) (hx : IsSt C x rs ls) (q : QD (.cell C.length) (C ++ [.lst ((wordsOf rs ls).map D.str)])) : W (m_words [x] C) QD := by
  have h3 := v.top
  have h4 := v.len
  unfold m_words
  repeat' walk_at "ev"
  refine need_ok hx v ?_
  obtain ⟨a, b, rfl, ha, hb⟩ := id hx
  repeat' walk_at "ev"
  refine w_lcMapIx (f := fun i => .str (wAt rs ls i)) (fun i d hd => ?_) ?_
  · obtain ⟨h, rfl⟩ := rgD_get hd
    repeat' walk_at "ev"
    exact word_ok v hx (by simpa using h) ⟨rfl, rfl⟩
  · rw [rgD_len, List.length_map, words_map]
    repeat' walk_at "ev"
    exact W.of (fin_cell0 (closedDs_strs _ _)) q
theorem wordsF_ok {n : Nat} (v : Vs rs ls) {sl : Sl} {m : ME} (hi : W (m sl C) fun x C' => C' = C ∧ IsSt C x rs ls) (q : QD (.lst ((wordsOf rs ls).map D.str)) C) : W (mFz (n + 1) (mF 1 m_words (aCons m aNil)) sl C) QD := by
  refine w_fzL ?_
  refine w_F ?_
  refine w_aCons (hi.imp fun x C' h => ?_)
  obtain ⟨rfl, h⟩ := h
  repeat' walk_at "ev"
  exact words_ok v h ⟨_, rfl, rfl, closedDs_strs _ _, q⟩
end


section
variable {rs ls : List Int} {C : Store} {QD : D → Store → Prop} {x : D}
def lostOf (rs ls : List Int) : List Int := ((List.range rs.length).filter fun i => decide (wAt rs ls i = "forgotten")).map fun i : Nat => (i : Int)
theorem lost_map : ((List.range rs.length).filter fun i => decide (wAt rs ls i = "forgotten")).map (fun i : Nat => D.int i) = (lostOf rs ls).map D.int := by
  unfold lostOf
  rw [List.map_map]
  rfl
theorem lost_len : (lostOf rs ls).length ≤ rs.length := by
  unfold lostOf
  rw [List.length_map]
  exact Nat.le_trans (List.length_filter_le _ _) (by simp)
theorem forgotten_ok (v : Vs rs ls) (hx : IsSt C x rs ls) (q : QD (.cell C.length) (C ++ [.lst ((lostOf rs ls).map D.int)])) : W (m_forgotten [x] C) QD := by
  have h3 := v.top
  unfold m_forgotten
  repeat' walk_at "ev"
  refine wordsF_ok v (w_var rfl ⟨rfl, hx⟩) ?_
  have hw : (wordsOf rs ls).length = rs.length := words_len
  repeat' walk_at "ev"
  refine w_lcIx (p := fun i => decide (wAt rs ls i = "forgotten")) (f := fun i => .int i) (fun i d hd => ?_) ?_
  · obtain ⟨a, rfl, ha⟩ := enumGet hd
    have hi : i < rs.length := by have := (List.getElem?_eq_some_iff.mp ha).1; simpa [words_len] using this
    rw [List.getElem?_map, words_get hi] at ha
    cases ha
    repeat' walk_at "ev"
    refine ⟨rfl, rfl, fun _ => ?_⟩
    repeat' walk_at "ev"
    exact ⟨rfl, rfl⟩
  · rw [show (enumD 0 ((wordsOf rs ls).map D.str), ([] : Gd)).1.length = rs.length from by simp [enumD_length, words_len], lost_map]
    repeat' walk_at "ev"
    exact W.of (fin_cell0 (closedDs_ints _ _)) q
theorem forgottenF_ok {n : Nat} (v : Vs rs ls) {sl : Sl} {m : ME} (hi : W (m sl C) fun x C' => C' = C ∧ IsSt C x rs ls) (q : QD (.lst ((lostOf rs ls).map D.int)) C) : W (mFz (n + 1) (mF 1 m_forgotten (aCons m aNil)) sl C) QD := by
  refine w_fzL ?_
  refine w_F ?_
  refine w_aCons (hi.imp fun x C' h => ?_)
  obtain ⟨rfl, h⟩ := h
  repeat' walk_at "ev"
  exact forgotten_ok v h ⟨_, rfl, rfl, closedDs_ints _ _, q⟩
end


abbrev Dd := Str × Int
abbrev dD (e : Dd) : D := .tup [.str e.1, .int e.2]
def OkD (n : Int) (e : Dd) : Prop := (e.1 = "go" ∨ e.1 = "come") ∧ 1 ≤ e.2 ∧ e.2 ≤ n
def OkH (n : Int) (h : List Dd) : Prop := ∀ e ∈ h, OkD n e
/-- a deed, done to both lists -/
def doR (p : List Int × List Int) (e : Dd) : Int := p.1.getD e.2.toNat 0
def doL (p : List Int × List Int) (e : Dd) : Int := p.2.getD (e.2 - 1).toNat 0
def step (p : List Int × List Int) (e : Dd) : List Int × List Int :=
  (p.1.set (doL p e).toNat (if e.1 = "go" then doR p e else e.2), p.2.set (doR p e - 1).toNat (if e.1 = "go" then doL p e else e.2))
def run (p : List Int × List Int) (h : List Dd) : List Int × List Int := h.foldl step p
theorem step_vs {rs ls : List Int} {n : Int} {e : Dd} (v : Vs rs ls) (hn : n = rs.length - 1) (he : OkD n e) : Vs (step (rs, ls) e).1 (step (rs, ls) e).2 ∧ (step (rs, ls) e).1.length = rs.length := by
  obtain ⟨h0, h1, h2⟩ := he
  obtain ⟨r, hr, _, r1, r2, er⟩ := v.rx (i := e.2) (by omega) (by omega)
  obtain ⟨l, hl, _, l1, l2, el⟩ := v.lx (i := e.2 - 1) (by omega) (by omega)
  have e1 : doR (rs, ls) e = r := er
  have e2 : doL (rs, ls) e = l := el
  unfold step
  rw [e1, e2]
  refine ⟨(v.setR ?_ ?_).setL ?_ ?_, by simp⟩
  all_goals split <;> omega
theorem run_vs {n : Int} : ∀ {h : List Dd} {rs ls : List Int}, Vs rs ls → n = rs.length - 1 → OkH n h → Vs (run (rs, ls) h).1 (run (rs, ls) h).2 ∧ (run (rs, ls) h).1.length = rs.length
  | [], _, _, v, _, _ => ⟨v, rfl⟩
  | e :: h, rs, ls, v, hn, hh => by
    obtain ⟨v1, l1⟩ := step_vs v hn (hh e List.mem_cons_self)
    obtain ⟨v2, l2⟩ := run_vs (h := h) v1 (by rw [l1]; exact hn) fun x hx => hh x (List.mem_cons_of_mem _ hx)
    exact ⟨v2, l2.trans l1⟩
theorem OkH.take {n : Int} {h : List Dd} (k : Nat) (hh : OkH n h) : OkH n (h.take k) := fun e he => hh e (List.mem_of_mem_take he)
theorem OkH.drop {n : Int} {h : List Dd} (k : Nat) (hh : OkH n h) : OkH n (h.drop k) := fun e he => hh e (List.mem_of_mem_drop he)
theorem OkH.app {n : Int} {h k : List Dd} (hh : OkH n h) (hk : OkH n k) : OkH n (h ++ k) := fun e he => (List.mem_append.mp he).elim (hh e) (hk e)
theorem OkH.one {n : Int} {e : Dd} (h : OkD n e) : OkH n [e] := fun x hx => by cases List.mem_singleton.mp hx; exact h
theorem OkH.nil {n : Int} : OkH n [] := fun x hx => nomatch hx
section
variable {rs ls : List Int} {C : Store} {QD : D → Store → Prop} {x y : D} {h : List Dd} {e : Dd} {n : Int}
theorem isdeed_ok (he : OkD n e) (q : QD (.bl true) C) : W (m_is_deed [dD e, .int n] C) QD := by
  obtain ⟨k, d⟩ := e
  obtain ⟨h0, h1, h2⟩ := he
  unfold m_is_deed
  repeat' walk_at "ev"
  refine w_inT (l := ["go", "come"]) ?_
  rw [show (if true = true then !((["go", "come"] : List Str).any fun y => y == k) else (["go", "come"] : List Str).any fun y => y == k) = false from by
    rcases h0 with h0 | h0 <;> rw [show k = _ from h0] <;> decide +kernel]
  repeat' walk_at "ev"
  refine between_ok ?_
  rw [show decide (1 ≤ d ∧ d ≤ n) = true from decide_eq_true ⟨h1, h2⟩]
  exact fin_same rfl rfl q
theorem needdeeds_ok (hx : IsLst C x (h.map dD)) (hh : OkH n h) (q : QD .non C) : W (m_need_deeds [x, .int n] C) QD := by
  have tx := hx.ty
  obtain ⟨g, eg, og⟩ := hx.it
  unfold m_need_deeds
  repeat' walk_at "ev"
  refine ⟨_, eg, ?_⟩
  refine w_forM (fun i sl C1 => ∃ x2 x3, sl = [some x, some (.int n), x2, x3] ∧ C1 = C) (fun _ _ _ hi => by obtain ⟨_, _, _, rfl⟩ := hi; exact og) ?_ ?_ ⟨_, _, rfl, rfl⟩
  · intro i d sl C1 hd hi
    obtain ⟨x2, x3, rfl, rfl⟩ := hi
    obtain ⟨a, rfl, ha⟩ := enumGet hd
    rw [List.getElem?_map, Option.map_eq_some_iff] at ha
    obtain ⟨e, he, rfl⟩ := ha
    repeat' walk_at "ev"
    refine isdeed_ok (hh e (List.mem_of_getElem? he)) ?_
    repeat' walk_at "ev"
    exact ⟨_, _, rfl, rfl⟩
  · intro sl C1 hi
    obtain ⟨x2, x3, rfl, rfl⟩ := hi
    repeat' walk_at "ev"
    exact fin_same rfl rfl q
theorem copied_ok (hx : IsSt C x rs ls) (q : QD (.tup [.cell C.length, .cell (C.length + 1)]) (C ++ [iL rs, iL ls])) : W (m_copied [x] C) QD := by
  obtain ⟨a, b, rfl, ha, hb⟩ := hx
  unfold m_copied
  repeat' walk_at "ev"
  refine ha.list ?_
  repeat' walk_at "ev"
  refine hb.app.list ?_
  repeat' walk_at "ev"
  rw [List.append_assoc, List.length_append]
  exact fin_two0 (j := 0) (k := 1) rfl rfl (by decide) (closed_iL _ _) (closed_iL _ _) q
theorem dancers_ok (hx : IsSt C x rs ls) (q : QD (.int ((rs.length : Int) - 1)) C) : W (m_dancers_of [x] C) QD := by
  obtain ⟨a, b, rfl, ha, hb⟩ := hx
  unfold m_dancers_of
  repeat' walk_at "ev"
  rw [List.length_map]
  exact fin_same rfl rfl q
theorem handsby_ok (hx : IsSt C x rs ls) (v : Vs rs ls) (hn : n = rs.length - 1) (he : OkD n e)
    (q : QD (.cell C.length) (C ++ [.lst [.tup [.str "right", .int (doL (rs, ls) e), .int (doL (rs, ls) e), .int (if e.1 = "go" then doR (rs, ls) e else e.2)], .tup [.str "left", .int (doR (rs, ls) e), .int (doR (rs, ls) e - 1), .int (if e.1 = "go" then doL (rs, ls) e else e.2)]]])) :
    W (m_hands_by [x, dD e] C) QD := by
  obtain ⟨a, b, rfl, ha, hb⟩ := hx
  obtain ⟨k, d⟩ := e
  obtain ⟨h0, h1, h2⟩ := he
  simp only at h1 h2
  obtain ⟨r, hr, a1, r1, r2, er⟩ := v.rx (i := d) (by omega) (by omega)
  obtain ⟨l, hl, a2, l1, l2, el⟩ := v.lx (i := d - 1) (by omega) (by omega)
  have e1 : doR (rs, ls) (k, d) = r := er
  have e2 : doL (rs, ls) (k, d) = l := el
  rw [e1, e2] at q
  unfold m_hands_by
  repeat' walk_at "ev"
  by_cases hk : k = "go"
  · simp only [if_pos hk] at q
    refine ite_t (decide_eq_true hk) ?_
    repeat' walk_at "ev"
    exact W.of (fin_cell0 rfl) q
  · simp only [if_neg hk] at q
    refine ite_f (decide_eq_false hk) ?_
    repeat' walk_at "ev"
    exact W.of (fin_cell0 rfl) q
theorem ixN_in {m : Nat} {i : Int} (h0 : 0 ≤ i) (h : i < m) : ixN m i = some i.toNat := ixN_int h0 h
theorem behind_ok (hx : IsSt C x rs ls) (v : Vs rs ls) (hn : n = rs.length - 1) (hy : IsLst C y (h.map dD)) (hh : OkH n h)
    (q : QD (.tup [.cell C.length, .cell (C.length + 1)]) (C ++ [iL (run (rs, ls) h).1, iL (run (rs, ls) h).2])) : W (m_behind [x, y] C) QD := by
  obtain ⟨g, eg, og⟩ := hy.itA
  unfold m_behind
  repeat' walk_at "ev"
  refine need_ok hx v ?_
  repeat' walk_at "ev"
  refine dancers_ok hx ?_
  repeat' walk_at "ev"
  refine needdeeds_ok hy (by rw [← hn]; exact hh) ?_
  repeat' walk_at "ev"
  refine copied_ok hx ?_
  repeat' walk_at "ev"
  refine ⟨(h.map dD, g), ?_, ?_⟩
  · cases hy with
    | f => exact eg
    | c k ds hk => unfold lstG at eg ⊢; simp only [hk] at eg; simp only [at_lo hk]; exact eg
  refine w_forM (fun i sl C1 => ∃ x3 x4 x5 x6 x7, sl = [some x, some y, some (.tup [.cell C.length, .cell (C.length + 1)]), x3, x4, x5, x6, x7] ∧ C1 = C ++ [iL (run (rs, ls) (h.take i)).1, iL (run (rs, ls) (h.take i)).2])
    (fun _ _ _ hi => by obtain ⟨_, _, _, _, _, _, rfl⟩ := hi; exact og _) ?_ ?_ ⟨_, _, _, _, _, rfl, rfl⟩
  · intro i d sl C1 hd hi
    obtain ⟨x3, x4, x5, x6, x7, rfl, rfl⟩ := hi
    rw [List.getElem?_map, Option.map_eq_some_iff] at hd
    obtain ⟨e, he, rfl⟩ := hd
    have heo := hh e (List.mem_of_getElem? he)
    obtain ⟨v1, l1⟩ := run_vs v hn (hh.take i)
    have es : run (rs, ls) (h.take (i + 1)) = step (run (rs, ls) (h.take i)) e := by
      rw [List.take_succ, he]
      unfold run
      rw [List.foldl_append]
      rfl
    rw [es]
    generalize hp : run (rs, ls) (h.take i) = p at v1 l1
    obtain ⟨rs1, ls1⟩ := p
    simp only at v1 l1
    have n1 : n = rs1.length - 1 := by omega
    repeat' walk_at "ev"
    refine w_fzL ?_
    repeat' walk_at "ev"
    refine handsby_ok (IsSt.c at_app0 at_app) v1 n1 heo ?_
    refine ⟨_, rfl, rfl, rfl, ?_⟩
    repeat' walk_at "ev"
    obtain ⟨h0, h1, h2⟩ := heo
    obtain ⟨r, hr, a1, r1, r2, er⟩ := v1.rx (i := e.2) (by omega) (by omega)
    obtain ⟨l, hl, a2, k1, k2, el⟩ := v1.lx (i := e.2 - 1) (by omega) (by omega)
    have e1 : doR (rs1, ls1) e = r := er
    have e2 : doL (rs1, ls1) e = l := el
    have vl := v1.len
    unfold step
    simp only [e1, e2]
    have i1 : ixN (rs1.map D.int).length l = some l.toNat := ixN_in k1 (by simp; omega)
    have i2 : ixN (ls1.map D.int).length (r - 1) = some (r - 1).toNat := ixN_in (by omega) (by simp [vl]; omega)
    refine w_forCons ?_
    repeat' walk_at "ev"
    rw [setI_map]
    simp only [set_app0, List.set_cons_zero]
    refine w_forCons ?_
    repeat' walk_at "ev"
    rw [setI_map]
    simp only [set_app, List.set_cons_zero, List.set_cons_succ]
    refine w_forNil ?_
    repeat' walk_at "ev"
    exact ⟨_, _, _, _, _, rfl, rfl⟩
  · intro sl C1 hi
    obtain ⟨x3, x4, x5, x6, x7, rfl, rfl⟩ := hi
    rw [List.length_map, List.take_length]
    repeat' walk_at "ev"
    exact fin_two0 (j := 0) (k := 1) rfl rfl (by decide) (closed_iL _ _) (closed_iL _ _) q
theorem behindF_ok {k : Nat} {sl : Sl} {mx my : ME} (v : Vs rs ls) (hn : n = rs.length - 1) (hh : OkH n h) (hx : W (mx sl C) fun x C' => C' = C ∧ IsSt C x rs ls) (hy : W (my sl C) fun y C' => C' = C ∧ IsLst C y (h.map dD))
    (q : QD (sD (run (rs, ls) h).1 (run (rs, ls) h).2) C) : W (mFz (k + 2) (mF 2 m_behind (aCons mx (aCons my aNil))) sl C) QD := by
  refine w_fzS ?_
  refine w_F ?_
  refine w_aCons (hx.imp fun x C' hx => ?_)
  obtain ⟨rfl, hx⟩ := hx
  refine w_aCons (hy.imp fun y C' hy => ?_)
  obtain ⟨rfl, hy⟩ := hy
  repeat' walk_at "ev"
  exact behind_ok hx v hn hy hh ⟨_, _, rfl, rfl, closedDs_ints _ _, closedDs_ints _ _, q⟩
end


theorem Shw.word {w : Str} (h : w = "go" ∨ w = "come") : Shw (.str w) 4 0 (.str w) := by
  refine ⟨fun _ => rfl, rfl, ?_, Nat.le_refl _, ?_, rfl⟩
  · show PyData.strOk w = true
    rcases h with rfl | rfl <;> decide +kernel
  · show w.cps.size ≤ 4
    rcases h with rfl | rfl <;> decide +kernel
theorem Shw.deed {n : Int} {e : Dd} (h : OkD n e) (hn : n ≤ 1000000) : Shw (dD e) 47 1 (.tuple [.str e.1, .int e.2]) := by
  obtain ⟨h0, h1, h2⟩ := h
  exact Shw.tup2 (Shw.word h0) (Shw.int ⟨by omega, by omega⟩)
theorem Shw.deeds {n : Int} {l : List Dd} (h : OkH n l) (hn : n ≤ 1000000) : Shw (.lst (l.map dD)) (48 * l.length) 2 (.list (l.map fun e => .tuple [.str e.1, .int e.2])) :=
  Shw.map (fun _ _ => rfl) fun e he => Shw.deed (h e he) hn


theorem dD_closed (l : List Dd) : closedC 0 (.lst (l.map dD)) = true := closedDs_map (fun _ => rfl) l
theorem sD_closed (rs ls : List Int) : closedD 0 (sD rs ls) = true := by show (closedDs 0 _ && (closedDs 0 _ && true)) = true; rw [closedDs_ints, closedDs_ints]; rfl



section
variable {C G X : Store} {k m n : Nat} {S : Cell} {QD : D → Store → Prop} {rs ls : List Int} {x : D} {e : Dd}
theorem ringD_ok (h : n ≤ 1000) (q : QD (.tup [.cell C.length, .cell (C.length + 1)]) (C ++ [iL (whR n), iL (whL n)])) : W (m__law_ring [.int n] C) QD := by
  unfold m__law_ring
  repeat' walk_at "ev"
  refine w_rg (by simp [lowI]; omega) ?_
  rw [rg_whR]
  repeat' walk_at "ev"
  refine w_rg (by simp [lowI]; omega) ?_
  rw [rg_whL]
  refine w_newC ?_
  rw [List.append_assoc, List.length_append]
  repeat' walk_at "ev"
  exact fin_two0 (j := 0) (k := 1) rfl rfl (by decide) (closed_iL _ _) (closed_iL _ _) q
theorem done_ok {n : Int} (hx : IsSt C x rs ls) (v : Vs rs ls) (hn : n = rs.length - 1) (he : OkD n e) (q : QD (.tup [.cell C.length, .cell (C.length + 1)]) (C ++ [iL (step (rs, ls) e).1, iL (step (rs, ls) e).2])) : W (m__law_done [x, dD e] C) QD := by
  obtain ⟨a, b, rfl, ha, hb⟩ := id hx
  have vl := v.len
  obtain ⟨k, w⟩ := e
  obtain ⟨h0, w0, w1⟩ := he
  simp only at w0 w1
  obtain ⟨r, hr, a1, r1, r2, er⟩ := v.rx (i := w) (by omega) (by omega)
  obtain ⟨l, hl, a2, l1, l2, el⟩ := v.lx (i := w - 1) (by omega) (by omega)
  have e1 : doR (rs, ls) (k, w) = r := er
  have e2 : doL (rs, ls) (k, w) = l := el
  unfold step at q
  rw [e1, e2] at q
  simp only at q
  unfold m__law_done
  repeat' walk_at "ev"
  refine ha.list ?_
  repeat' walk_at "ev"
  refine hb.app.list ?_
  repeat' walk_at "ev"
  rw [List.append_assoc, List.length_append, show ([iL rs] : Store).length = 1 from rfl]
  have c1 : (C ++ ([Cell.lst (rs.map D.int)] ++ [Cell.lst (ls.map D.int)]))[C.length]? = some (.lst (rs.map D.int)) := at_app0
  have c2 : (C ++ ([Cell.lst (rs.map D.int)] ++ [Cell.lst (ls.map D.int)]))[C.length + 1]? = some (.lst (ls.map D.int)) := at_app
  have i1 : ixN (rs.map D.int).length l = some l.toNat := ixN_in l1 (by simp; omega)
  have i2 : ixN (ls.map D.int).length (r - 1) = some (r - 1).toNat := ixN_in (by omega) (by simp [vl]; omega)
  repeat' walk_at "ev"
  by_cases hk : k = "go"
  · simp only [if_pos hk] at q
    refine ite_t (decide_eq_true hk) ?_
    repeat' walk_at "ev"
    rw [setI_map, set_app0]
    have c3 : (C ++ ([Cell.lst (rs.map D.int)] ++ [Cell.lst (ls.map D.int)]).set 0 (.lst ((rs.set l.toNat r).map D.int)))[C.length + 1]? = some (.lst (ls.map D.int)) := at_app
    refine ite_t (decide_eq_true hk) ?_
    repeat' walk_at "ev"
    rw [setI_map, set_app]
    exact fin_two0 (j := 0) (k := 1) rfl rfl (by decide) (closed_iL _ _) (closed_iL _ _) q
  · simp only [if_neg hk] at q
    refine ite_f (decide_eq_false hk) ?_
    repeat' walk_at "ev"
    rw [setI_map, set_app0]
    have c3 : (C ++ ([Cell.lst (rs.map D.int)] ++ [Cell.lst (ls.map D.int)]).set 0 (.lst ((rs.set l.toNat w).map D.int)))[C.length + 1]? = some (.lst (ls.map D.int)) := at_app
    refine ite_f (decide_eq_false hk) ?_
    repeat' walk_at "ev"
    rw [setI_map, set_app]
    exact fin_two0 (j := 0) (k := 1) rfl rfl (by decide) (closed_iL _ _) (closed_iL _ _) q
end


section
variable {C G X : Store} {k m n : Nat} {S : Cell} {QD : D → Store → Prop} {rs ls : List Int} {x : D} {e : Dd}
theorem pickD {r1 r2 : Int} (h0 : 0 ≤ r2) (h1 : r2 < 3) : ∃ z : Int, atI [D.int 3, D.int 2, D.int 1] r2 = some (.int z) ∧ ∃ w : Str, atI [D.str "go", D.str "come"] (if decide (z < r1) = true then 1 else 0) = some (.str w) ∧ (w = "go" ∨ w = "come") := by
  have : r2 = 0 ∨ r2 = 1 ∨ r2 = 2 := by omega
  have hw : ∀ z : Int, ∃ w : Str, atI [D.str "go", D.str "come"] (if decide (z < r1) = true then 1 else 0) = some (.str w) ∧ (w = "go" ∨ w = "come") := fun z => by
    split
    · exact ⟨"come", rfl, .inr rfl⟩
    · exact ⟨"go", rfl, .inl rfl⟩
  rcases this with rfl | rfl | rfl
  · exact ⟨3, rfl, hw 3⟩
  · exact ⟨2, rfl, hw 2⟩
  · exact ⟨1, rfl, hw 1⟩
theorem handsD_ok (hm : m ≤ 900000) (hS : Jd m S) (hG : ClS G) (n0 : 1 ≤ n) (n1 : n ≤ 200) (q : ∀ S' rs ls, Jd (m + 5000) S' → Vs rs ls → rs.length = n + 1 → QD (sD rs ls) (S' :: G)) : W (m__law_hands [.cell 0, .int n] (S :: G)) QD := by
  have v0 := wh_vs (n := n) n0 (by omega)
  have fin : ∀ S' rs ls m', Jd m' S' → m' ≤ m + 5000 → Vs rs ls → rs.length = n + 1 → W (Nv.fin (S :: G) (sD rs ls) (S' :: G)) QD := fun S' rs ls m' h hm' v vl =>
    fin_closed10 rfl (ClS.cons (h.closed 0) hG) (sD_closed rs ls) (q S' rs ls (h.mono hm') v vl)
  unfold m__law_hands
  repeat' walk_at "ev"
  refine w_fzS ?_
  repeat' walk_at "ev"
  refine ringD_ok (by omega) ⟨_, _, rfl, rfl, closedDs_ints _ _, closedDs_ints _ _, ?_⟩
  repeat' walk_at "ev"
  refine dip_c0 (by omega) hS (by decide) (by decide) fun st S1 a1 b1 hS1 => ?_
  repeat' walk_at "ev"
  by_cases h3 : st = 3
  · refine ite_t (decide_eq_true h3) ?_
    repeat' walk_at "ev"
    refine w_lcEffN (fun i C => ∃ S', C = S' :: G ∧ Jd (m + 1 + i) S') (fun i x => (i : Int) + 1 ≤ x ∧ x ≤ n + 1) (fun _ _ _ => okG_nil _) (fun i d C hd hi => ?_) ⟨S1, rfl, hS1⟩ fun rs1 C' e1 b1 hP => ?_
    · obtain ⟨S', rfl, hS'⟩ := hi
      obtain ⟨hi, rfl⟩ := rgD_get (n := n + 1) hd
      repeat' walk_at "ev"
      refine dip_c0 (by omega) hS' (by omega) (by omega) fun r S2 r0 r1 hS2 => ?_
      repeat' walk_at "ev"
      exact ⟨⟨by omega, by omega⟩, ⟨S2, rfl, hS2⟩⟩
    obtain ⟨S4, rfl, hS4⟩ := hP
    rw [show (rgD 0 ((n : Int) + 1), ([] : Gd)).1.length = n + 1 from rgD_len (n + 1)] at e1 hS4
    repeat' walk_at "ev"
    refine w_lcEffN (fun i C => ∃ S', C = S' :: G ∧ Jd (m + 1 + (n + 1) + i) S') (fun i x => 0 ≤ x ∧ x ≤ i) (fun _ _ _ => okG_nil _) (fun i d C hd hi => ?_) ⟨S4, rfl, hS4⟩ fun ls1 C' e2 b2 hP => ?_
    · obtain ⟨S', rfl, hS'⟩ := hi
      obtain ⟨hi, rfl⟩ := rgD_get (n := n + 1) hd
      repeat' walk_at "ev"
      refine dip_c0 (by omega) hS' (by omega) (by omega) fun r S2 r0 r1 hS2 => ?_
      exact ⟨_, rfl, ⟨by omega, by omega⟩, ⟨S2, rfl, hS2⟩⟩
    obtain ⟨S5, rfl, hS5⟩ := hP
    rw [show (rgD 0 ((n : Int) + 1), ([] : Gd)).1.length = n + 1 from rgD_len (n + 1)] at e2 hS5
    repeat' walk_at "ev"
    exact fin S5 rs1 ls1 _ hS5 (by omega) ⟨by omega, by omega, by omega, fun i x h => by have := b1 i x h; omega, fun i x h => b2 i x h⟩ e1
  · refine ite_f (decide_eq_false h3) ?_
    repeat' walk_at "ev"
    obtain ⟨z, hz, z0, z1⟩ : ∃ z : Int, atI [D.int 4, D.int (2 * (n : Int) + 2), D.int 40] st = some (.int z) ∧ 1 ≤ z ∧ z ≤ 402 := by
      have : st = 0 ∨ st = 1 ∨ st = 2 := by omega
      rcases this with rfl | rfl | rfl
      · exact ⟨4, rfl, by decide, by decide⟩
      · exact ⟨_, rfl, by omega, by omega⟩
      · exact ⟨40, rfl, by decide, by decide⟩
    repeat' walk_at "ev"
    refine dip_c0 (by omega) hS1 (by omega) (by omega) fun ct S2 a2 b2 hS2 => ?_
    obtain ⟨ct, rfl⟩ : ∃ t : Nat, ct = t := ⟨ct.toNat, by omega⟩
    repeat' walk_at "ev"
    refine w_forM (fun i sl C => ∃ S' rs ls x5 x6, sl = [some (.cell 0), some (.int n), some (sD rs ls), some (.int st), none, x5, x6, none] ∧ C = S' :: G ∧ Jd (m + 2 + 3 * i) S' ∧ Vs rs ls ∧ rs.length = n + 1) (fun _ _ _ _ => okG_nil _) ?_ ?_ ⟨S2, whR n, whL n, _, _, rfl, rfl, hS2, v0, whR_len n⟩
    · intro i d sl C hd hi
      obtain ⟨S', rs, ls, x5, x6, rfl, rfl, hS', v, vl⟩ := hi
      obtain ⟨hi, rfl⟩ := rgD_get (n := ct) hd
      repeat' walk_at "ev"
      refine dip_c0 (by omega) hS' (by decide) (by decide) fun r1 S3 c1 d1 hS3 => ?_
      repeat' walk_at "ev"
      refine dip_c0 (by omega) hS3 (by decide) (by decide) fun r2 S4 c2 d2 hS4 => ?_
      obtain ⟨z, hz, w, hw, hw2⟩ := pickD (r1 := r1) c2 d2
      repeat' walk_at "ev"
      refine w_fz2 ?_
      repeat' walk_at "ev"
      refine dip_c0 (by omega) hS4 (by omega) (by omega) fun r3 S5 c3 d3 hS5 => ?_
      repeat' walk_at "ev"
      have he : OkD (n : Int) (w, 1 + r3) := ⟨hw2, by show (1 : Int) ≤ 1 + r3; omega, by show 1 + r3 ≤ (n : Int); omega⟩
      have hn : (n : Int) = rs.length - 1 := by omega
      obtain ⟨v1, l1⟩ := step_vs v hn he
      refine done_ok (e := (w, 1 + r3)) (n := n) (IsSt.f rs ls) v hn he ⟨_, _, S5 :: G, rfl, rfl, rfl, (ClS.cons (hS5.closed 0) hG).at _, closedDs_ints _ _, closedDs_ints _ _, ?_⟩
      repeat' walk_at "ev"
      exact ⟨S5, _, _, _, _, rfl, rfl, by rw [show m + 2 + 3 * (i + 1) = m + 2 + 3 * i + 1 + 1 + 1 from by omega]; exact hS5, v1, l1.trans vl⟩
    · intro sl C hi
      obtain ⟨S', rs, ls, x5, x6, rfl, rfl, hS', v, vl⟩ := hi
      rw [rgD_len] at hS'
      repeat' walk_at "ev"
      exact fin S' rs ls _ hS' (by omega) v vl
end


/-! hands in a dict, by side and dancer -/
abbrev kR (i : Int) : List Key := [.inr "right", .inl i]
abbrev kL (i : Int) : List Key := [.inr "left", .inl i]
theorem kR_inj {i j : Int} : kR i = kR j ↔ i = j := by simp [kR]
theorem kL_inj {i j : Int} : kL i = kL j ↔ i = j := by simp [kL]
theorem rl_str : ¬ (("right" : Str) = "left") := by decide +kernel
theorem kRL {i j : Int} : ¬ kR i = kL j := fun h => by
  have := (List.cons.inj h).1
  exact rl_str (Sum.inr.inj this)
theorem kLR {i j : Int} : ¬ kL i = kR j := fun h => kRL h.symm
section
variable {κ : Type} [DecidableEq κ]
theorem valD_put (k k' : κ) (d : D) : ∀ kvs : List (κ × D), valD (putD kvs k d) k' = if k' = k then some d else valD kvs k' := by
  intro kvs
  have hmap : ∀ kvs : List (κ × D), valD (kvs.map fun kv => if kv.1 = k then (kv.1, d) else kv) k' = if k' = k then (if (kvs.any fun kv => decide (kv.1 = k)) = true then some d else none) else valD kvs k' := by
    intro kvs
    induction kvs with
    | nil => unfold valD; split <;> rfl
    | cons kv kvs ih =>
      unfold valD at ih ⊢
      rw [List.map_cons, List.find?_cons, List.find?_cons, List.any_cons]
      by_cases h1 : kv.1 = k
      · rw [if_pos h1]
        by_cases h2 : k' = k
        · subst h2
          simp [h1]
        · have h3 : ¬ kv.1 = k' := fun z => h2 (z ▸ h1)
          simp only [decide_eq_false h3, if_neg h2] at ih ⊢
          exact ih
      · rw [if_neg h1]
        by_cases h2 : kv.1 = k'
        · have h3 : ¬ k' = k := fun z => h1 (h2.trans z)
          rw [if_neg h3]
          simp [h2]
        · simp only [decide_eq_false h2, decide_eq_false h1, Bool.false_or] at ih ⊢
          exact ih
  unfold putD
  split
  · rename_i h
    rw [hmap, h]
    rfl
  · rename_i h
    have hn : ∀ kvs : List (κ × D), valD (kvs ++ [(k, d)]) k' = (valD kvs k').or (if k = k' then some d else none) := by
      intro kvs
      unfold valD
      rw [List.find?_append]
      cases kvs.find? fun kv => decide (kv.1 = k') with
      | none =>
        by_cases hk : k = k'
        · simp [hk]
        · simp [hk]
      | some x => rfl
    rw [hn]
    by_cases hk : k' = k
    · subst hk
      rw [if_pos rfl, if_pos rfl]
      have : valD kvs k' = none := by
        unfold valD
        rw [Option.map_eq_none_iff, List.find?_eq_none]
        intro x hx hd
        exact h (List.any_eq_true.mpr ⟨x, hx, hd⟩)
      rw [this]
      rfl
    · rw [if_neg hk, if_neg (Ne.symm hk)]
      cases valD kvs k' <;> rfl
theorem put_len (k : κ) (d : D) (kvs : List (κ × D)) : (putD kvs k d).length = if valD kvs k = none then kvs.length + 1 else kvs.length := by
  have e : (kvs.any fun kv => decide (kv.1 = k)) = true ↔ ¬ valD kvs k = none := by
    unfold valD
    rw [Option.map_eq_none_iff, List.find?_eq_none, List.any_eq_true]
    constructor
    · rintro ⟨x, hx, hd⟩ h
      exact h x hx hd
    · intro h
      exact Classical.byContradiction fun z => h fun x hx hd => z ⟨x, hx, hd⟩
  unfold putD
  split
  · rename_i h
    rw [if_neg (e.mp h), List.length_map]
  · rename_i h
    rw [if_pos (Classical.byContradiction fun z => h (e.mpr z)), List.length_append]
    rfl
theorem put_vals (k : κ) (d : D) (kvs : List (κ × D)) (h : closedDs 0 (kvs.map (·.2)) = true) (hd : closedD 0 d = true) : closedDs 0 ((putD kvs k d).map (·.2)) = true := by
  have app : ∀ l m : List D, closedDs 0 l = true → closedDs 0 m = true → closedDs 0 (l ++ m) = true := by
    intro l m h1 h2
    induction l with
    | nil => exact h2
    | cons x l ih =>
      unfold closedDs at h1
      rw [Bool.and_eq_true] at h1
      show (closedD 0 x && closedDs 0 (l ++ m)) = true
      rw [h1.1, ih h1.2]
      rfl
  unfold putD
  split
  · clear app
    rename_i hx
    clear hx
    induction kvs with
    | nil => rfl
    | cons kv kvs ih =>
      have h : (closedD 0 kv.2 && closedDs 0 (kvs.map (·.2))) = true := h
      rw [Bool.and_eq_true] at h
      show (closedD 0 (if kv.1 = k then (kv.1, d) else kv).2 && closedDs 0 _) = true
      rw [ih h.2]
      split
      · rw [hd]; rfl
      · rw [h.1]; rfl
  · rw [List.map_append]
    exact app _ _ h (by show (closedD 0 d && true) = true; rw [hd]; rfl)
end
structure DHas (kvs : List (List Key × D)) (rs ls : List Int) : Prop where
  len : kvs.length = 2 * rs.length
  lr : ls.length = rs.length
  r : ∀ (i : Nat) (x : Int), rs[i]? = some x → valD kvs (kR i) = some (.int x)
  l : ∀ (i : Nat) (x : Int), ls[i]? = some x → valD kvs (kL (i + 1 : Int)) = some (.int x)
  nr : ∀ i : Nat, rs.length ≤ i → valD kvs (kR i) = none
  nl : ∀ i : Nat, rs.length ≤ i → valD kvs (kL (i + 1 : Int)) = none
  cl : closedDs 0 (kvs.map (·.2)) = true
theorem DHas.nil : DHas [] [] [] := ⟨rfl, rfl, (fun _ _ h => nomatch h), (fun _ _ h => nomatch h), (fun _ _ => rfl), (fun _ _ => rfl), rfl⟩
theorem DHas.snoc {kvs : List (List Key × D)} {rs ls : List Int} (h : DHas kvs rs ls) (a b : Int) : DHas (putD (putD kvs (kR rs.length) (.int a)) (kL (rs.length + 1 : Int)) (.int b)) (rs ++ [a]) (ls ++ [b]) := by
  have v1 := h.nr rs.length (Nat.le_refl _)
  have v2 := h.nl rs.length (Nat.le_refl _)
  refine ⟨?_, by simp [h.lr], fun i x hx => ?_, fun i x hx => ?_, fun i hi => ?_, fun i hi => ?_, put_vals _ _ _ (put_vals _ _ _ h.cl rfl) rfl⟩
  · rw [put_len, valD_put, if_neg kLR, if_pos v2, put_len, if_pos v1, h.len]
    simp
    omega
  · rw [valD_put, if_neg kRL, valD_put]
    by_cases hi : i < rs.length
    · rw [List.getElem?_append_left hi] at hx
      rw [if_neg (by rw [kR_inj]; omega)]
      exact h.r i x hx
    · have hl := (List.getElem?_eq_some_iff.mp hx).1
      have : i = rs.length := by simp at hl; omega
      subst this
      simp at hx
      subst hx
      rw [if_pos rfl]
  · rw [valD_put]
    by_cases hi : i < ls.length
    · rw [List.getElem?_append_left hi] at hx
      have := h.lr
      rw [if_neg (by rw [kL_inj]; omega), valD_put, if_neg kLR]
      exact h.l i x hx
    · have hl := (List.getElem?_eq_some_iff.mp hx).1
      have : i = ls.length := by simp at hl; omega
      subst this
      simp at hx
      subst hx
      rw [h.lr, if_pos rfl]
  · simp at hi
    rw [valD_put, if_neg kRL, valD_put, if_neg (by rw [kR_inj]; omega)]
    exact h.nr i (by omega)
  · simp at hi
    rw [valD_put, if_neg (by rw [kL_inj]; omega), valD_put, if_neg kLR]
    exact h.nl i (by omega)
theorem DHas.setR {kvs : List (List Key × D)} {rs ls : List Int} (h : DHas kvs rs ls) {i : Nat} (hi : i < rs.length) (x : Int) : DHas (putD kvs (kR i) (.int x)) (rs.set i x) ls := by
  have v1 := h.r i _ (List.getElem?_eq_getElem hi)
  refine ⟨?_, by simp [h.lr], fun j y hy => ?_, fun j y hy => ?_, fun j hj => ?_, fun j hj => ?_, put_vals _ _ _ h.cl rfl⟩
  · rw [put_len, v1, if_neg (by simp), h.len, List.length_set]
  · rw [valD_put]
    rw [List.getElem?_set] at hy
    by_cases hij : i = j
    · subst hij
      rw [if_pos rfl, if_pos hi] at hy
      rw [if_pos rfl, ← Option.some.inj hy]
    · rw [if_neg hij] at hy
      rw [if_neg (by rw [kR_inj]; omega)]
      exact h.r j y hy
  · rw [valD_put, if_neg kLR]
    exact h.l j y hy
  · rw [List.length_set] at hj
    rw [valD_put, if_neg (by rw [kR_inj]; omega)]
    exact h.nr j hj
  · rw [List.length_set] at hj
    rw [valD_put, if_neg kLR]
    exact h.nl j hj
theorem DHas.setL {kvs : List (List Key × D)} {rs ls : List Int} (h : DHas kvs rs ls) {i : Nat} (hi : i < rs.length) (x : Int) : DHas (putD kvs (kL (i + 1 : Int)) (.int x)) rs (ls.set i x) := by
  have hl := h.lr
  have v1 := h.l i _ (List.getElem?_eq_getElem (by omega))
  refine ⟨?_, by simp [h.lr], fun j y hy => ?_, fun j y hy => ?_, fun j hj => ?_, fun j hj => ?_, put_vals _ _ _ h.cl rfl⟩
  · rw [put_len, v1, if_neg (by simp), h.len]
  · rw [valD_put, if_neg kRL]
    exact h.r j y hy
  · rw [valD_put]
    rw [List.getElem?_set] at hy
    by_cases hij : i = j
    · subst hij
      rw [if_pos rfl, if_pos (by omega)] at hy
      rw [if_pos rfl, ← Option.some.inj hy]
    · rw [if_neg hij] at hy
      rw [if_neg (by rw [kL_inj]; omega)]
      exact h.l j y hy
  · rw [valD_put, if_neg kRL]
    exact h.nr j hj
  · rw [valD_put, if_neg (by rw [kL_inj]; omega)]
    exact h.nl j hj


section
/-- a dict of whole numbers, all of one value -/
theorem valOnes (v : D) (k : Int) : ∀ (l : List Int) (kvs : List (Key × D)), (valD (l.foldl (fun kvs a => putD kvs (Sum.inl a) v) kvs) (Sum.inl k)).isSome = ((valD kvs (Sum.inl k)).isSome || l.any fun y => y == k)
  | [], kvs => by simp
  | a :: l, kvs => by
    rw [List.foldl_cons, valOnes v k l, valD_put, List.any_cons]
    by_cases h : a = k
    · rw [if_pos (by rw [h])]
      simp [h]
    · rw [if_neg (fun z => h (Sum.inl.inj z).symm), show (a == k) = false from beq_eq_false_iff_ne.mpr h, Bool.false_or]
def onesOf (l : List Int) : List (Key × D) := l.foldl (fun kvs a => putD kvs (Sum.inl a) (.bl true)) []
theorem onesIn (l : List Int) (k : Int) : (valD (onesOf l) (Sum.inl k)).isSome = l.any fun y => y == k := by
  unfold onesOf
  rw [valOnes]
  rfl
theorem onesCl (l : List Int) : closedC 0 (.dk (onesOf l)) = true := by
  have key : ∀ (l : List Int) (kvs : List (Key × D)), closedDs 0 (kvs.map (·.2)) = true → closedDs 0 ((l.foldl (fun kvs a => putD kvs (Sum.inl a) (.bl true)) kvs).map (·.2)) = true := by
    intro l
    induction l with
    | nil => intro kvs h; exact h
    | cons a l ih => intro kvs h; exact ih _ (put_vals _ _ _ h rfl)
  exact key l [] rfl
theorem filter_all {A : Type} : ∀ l : List A, l.filter (fun _ => true) = l
  | [] => rfl
  | x :: l => by rw [List.filter_cons_of_pos rfl, filter_all l]
end


def comes (ws : List Int) : List Dd := ws.map fun w => ("come", w)
def In (n : Int) (ws : List Int) : Prop := ∀ w ∈ ws, 1 ≤ w ∧ w ≤ n
section
variable {rs ls : List Int} {n w x : Int}
end
theorem In.tail {n w : Int} {ws : List Int} (h : In n (w :: ws)) : In n ws := fun x hx => h x (List.mem_cons_of_mem _ hx)
theorem In.take {n : Int} {ws : List Int} (k : Nat) (h : In n ws) : In n (ws.take k) := fun x hx => h x (List.mem_of_mem_take hx)
theorem In.drop {n : Int} {ws : List Int} (k : Nat) (h : In n ws) : In n (ws.drop k) := fun x hx => h x (List.mem_of_mem_drop hx)

section
variable {rs ls : List Int}
end


/-! goings and then comings forget nothing -/
def Rr (p : List Int × List Int) (b : Int) : Int := p.1.getD b.toNat 0
def Ll (p : List Int × List Int) (b : Int) : Int := p.2.getD b.toNat 0
structure NF (t : Int → Nat) (n : Int) (p : List Int × List Int) : Prop where
  a1 : ∀ b, 0 ≤ b → b ≤ n → t b ≤ t (b + 1) → Rr p b = b + 1
  a2 : ∀ b, 0 ≤ b → b ≤ n → t (b + 1) < t b → Ll p b = b
  j1 : ∀ b, 0 ≤ b → b ≤ n → Ll p b = b ∨ t (Ll p b + 1) < t (Ll p b)
  j2 : ∀ b, 0 ≤ b → b ≤ n → Rr p b = b + 1 ∨ t (Rr p b - 1) < t (Rr p b)
section
variable {rs ls : List Int} {n w : Int} {t : Int → Nat}
end

section
variable {rs ls : List Int} {C : Store} {QD : D → Store → Prop} {x : D} {n : Int}
/-! the gaps that are not held, and who owns them -/
def ownIx (rs ls : List Int) : List Nat := (List.range rs.length).filter fun i => !decide (wAt rs ls i = "held")
def ownF (rs ls : List Int) (i : Nat) : Int := (i : Int) + (if (!decide (wAt rs ls i = "left")) = true then 1 else 0)
def fewN (rs ls : List Int) : Nat := (((ownIx rs ls).map (ownF rs ls)).foldl addI []).length
theorem ownIx_len : (ownIx rs ls).length ≤ rs.length := Nat.le_trans (List.length_filter_le _ _) (by simp)
theorem anyLost : ((wordsOf rs ls).any fun y => y == "forgotten") = !decide (lostOf rs ls = []) := by
  by_cases c : lostOf rs ls = []
  · rw [c, decide_eq_true rfl, Bool.not_true, List.any_eq_false]
    intro w hw h
    unfold wordsOf at hw
    obtain ⟨i, hi, rfl⟩ := List.mem_map.mp hw
    have hm : (i : Int) ∈ lostOf rs ls := List.mem_map.mpr ⟨i, List.mem_filter.mpr ⟨hi, by simpa using h⟩, rfl⟩
    rw [c] at hm
    cases hm
  · rw [decide_eq_false c, Bool.not_false, List.any_eq_true]
    obtain ⟨b, hb⟩ := List.exists_mem_of_ne_nil _ c
    unfold lostOf at hb
    obtain ⟨i, hi, rfl⟩ := List.mem_map.mp hb
    obtain ⟨h1, h2⟩ := List.mem_filter.mp hi
    exact ⟨wAt rs ls i, List.mem_map.mpr ⟨i, h1, rfl⟩, by simpa using h2⟩
theorem closedDs_own (n : Nat) : ∀ l : List Nat, closedDs n (l.map fun i : Nat => .tup [.int i, .int (ownF rs ls i)]) = true
  | [] => rfl
  | a :: l => by
    show (true && closedDs n (l.map fun i : Nat => .tup [.int i, .int (ownF rs ls i)])) = true
    rw [closedDs_own n l]
    rfl
theorem owners_ok (v : Vs rs ls) (q : QD (.cell C.length) (C ++ [.lst ((ownIx rs ls).map fun i : Nat => .tup [.int i, .int (ownF rs ls i)])])) : W (m_owners_in [.lst ((wordsOf rs ls).map D.str)] C) QD := by
  have t := v.top
  have hw : (wordsOf rs ls).length = rs.length := words_len
  unfold m_owners_in
  repeat' walk_at "ev"
  refine w_lcIx (p := fun i => !decide (wAt rs ls i = "held")) (f := fun i : Nat => .tup [.int i, .int (ownF rs ls i)]) (fun i d hd => ?_) ?_
  · obtain ⟨a, rfl, ha⟩ := enumGet hd
    have hi : i < rs.length := by have := (List.getElem?_eq_some_iff.mp ha).1; simpa [words_len] using this
    rw [List.getElem?_map, words_get hi] at ha
    cases ha
    repeat' walk_at "ev"
    refine ⟨rfl, rfl, fun _ => ?_⟩
    repeat' walk_at "ev"
    exact ⟨rfl, rfl⟩
  · rw [show (enumD 0 ((wordsOf rs ls).map D.str), ([] : Gd)).1.length = rs.length from by simp [enumD_length, words_len]]
    repeat' walk_at "ev"
    exact W.of (fin_cell0 (closedDs_own _ _)) q
theorem fewest_ok (v : Vs rs ls) (hx : IsSt C x rs ls) (q : QD (if lostOf rs ls = [] then .int (fewN rs ls) else .non) C) : W (m_fewest [x] C) QD := by
  have t := v.top
  have t2 := ownIx_len (rs := rs) (ls := ls)
  unfold m_fewest
  repeat' walk_at "ev"
  refine wordsF_ok v (w_var rfl ⟨rfl, hx⟩) ?_
  repeat' walk_at "ev"
  refine w_inS ?_
  rw [if_neg Bool.false_ne_true, anyLost]
  repeat' walk_at "ev"
  by_cases c : lostOf rs ls = []
  · rw [if_pos c] at q
    refine ite_f (by rw [decide_eq_true c]; decide) ?_
    repeat' walk_at "ev"
    refine w_mSc ?_
    repeat' walk_at "ev"
    refine w_fzL ?_
    repeat' walk_at "ev"
    refine owners_ok v ⟨_, rfl, rfl, closedDs_own _ _, ?_⟩
    repeat' walk_at "ev"
    refine w_scA (φ := fun i : Nat => .tup [.int i, .int (ownF rs ls i)]) (p := fun _ => true) (f := ownF rs ls) (okG_nil _) (by omega) (fun i a ha => ?_) ?_
    · repeat' walk_at "ev"
      refine ⟨rfl, rfl, fun _ => ?_⟩
      repeat' walk_at "ev"
      exact ⟨rfl, rfl⟩
    rw [show (ownIx rs ls).filter (fun _ => true) = ownIx rs ls from List.filter_eq_self.mpr fun _ _ => rfl]
    refine w_lenSc ?_
    repeat' walk_at "ev"
    exact fin_same rfl rfl q
  · rw [if_neg c] at q
    refine ite_t (by rw [decide_eq_false c]; rfl) ?_
    repeat' walk_at "ev"
    exact fin_same rfl rfl q
end


section
variable {rs ls : List Int} {C : Store} {QD : D → Store → Prop} {x : D} {n : Nat}
/-! all deeds, and what each leads to -/
def two (i : Nat) : List Dd := [("go", 1 + (i : Int)), ("come", 1 + (i : Int))]
def allD (n : Nat) : List Dd := (List.range n).flatMap two
theorem allD_succ (n : Nat) : allD (n + 1) = allD n ++ two n := by
  unfold allD
  rw [List.range_succ, List.flatMap_append, List.flatMap_singleton]
theorem allD_len : ∀ n : Nat, (allD n).length = 2 * n
  | 0 => rfl
  | n + 1 => by
    rw [allD_succ, List.length_append, allD_len n]
    show 2 * n + 2 = _
    omega
theorem allD_ok (n : Nat) : OkH n (allD n) := fun e he => by
  obtain ⟨i, hi, he⟩ := List.mem_flatMap.mp he
  have hi := List.mem_range.mp hi
  unfold two at he
  rcases List.mem_cons.mp he with rfl | he
  · exact ⟨.inl rfl, by show (1 : Int) ≤ 1 + (i : Int); omega, by show 1 + (i : Int) ≤ (n : Int); omega⟩
  · cases List.mem_singleton.mp he
    exact ⟨.inr rfl, by show (1 : Int) ≤ 1 + (i : Int); omega, by show 1 + (i : Int) ≤ (n : Int); omega⟩
theorem alldeeds_ok (h : n ≤ 1000) (hn : rs.length = n + 1) (q : QD (.cell C.length) (C ++ [.lst ((allD n).map dD)])) : W (m_all_deeds [sD rs ls] C) QD := by
  unfold m_all_deeds
  repeat' walk_at "ev"
  refine w_mLc2 ?_
  repeat' walk_at "ev"
  rw [List.length_map]
  refine ⟨_, _, rfl, by simp [lowI]; omega, ?_⟩
  have e : rgD 1 (rs.length : Int) = (List.range n).map fun i : Nat => D.int (1 + (i : Int)) := by
    unfold rgD
    rw [show ((rs.length : Int) - 1).toNat = n from by omega]
  rw [e]
  refine w_lc2A (f := fun i => (two i).map dD) (okG_nil _) (fun i a acc ha hl => ?_) ?_
  · have hsz : acc.length + 2 ≤ 3000 := by
      rw [hl]
      have h1 : ((List.range n).take i).flatMap (fun i => (two i).map dD) = ((List.range n).take i).flatMap (fun i => (two i).map dD) := rfl
      have h2 : ∀ l : List Nat, (l.flatMap fun i => (two i).map dD).length = 2 * l.length := fun l => by
        induction l with
        | nil => rfl
        | cons b l ih =>
          rw [List.flatMap_cons, List.length_append, ih, List.length_cons]
          show 2 + _ = _
          omega
      rw [h2, List.length_take, List.length_range]
      have hi : i < n := by
        have := (List.getElem?_eq_some_iff.mp ha).1
        rwa [List.length_range] at this
      omega
    have hs1 : acc.length < sizeLine := Nat.lt_of_lt_of_le (by omega : acc.length < 10000) (by decide)
    have hs2 : ∀ d : D, (acc ++ [d]).length < sizeLine := fun d => by
      rw [List.length_append]
      exact Nat.lt_of_lt_of_le (by simp; omega : acc.length + [d].length < 10000) (by decide)
    repeat' walk_at "ev"
    simp only [wipeS, List.set_cons_zero, List.set_cons_succ]
    refine w_lc2C (okG_nil _) ?_
    repeat' walk_at "ev"
    refine ⟨hs1, ?_⟩
    refine w_lc2C (okG_nil _) ?_
    repeat' walk_at "ev"
    refine ⟨hs2 _, ?_⟩
    refine w_lc2N (okG_nil _) ?_
    exact ⟨by rw [List.append_assoc]; rfl, rfl⟩
  rw [show (List.range n).flatMap (fun i => (two i).map dD) = (allD n).map dD from by unfold allD; rw [List.map_flatMap]]
  repeat' walk_at "ev"
  exact W.of (fin_cell0 (dD_closed _)) q
def fewD (rs ls : List Int) : D := if lostOf rs ls = [] then .int (fewN rs ls) else .non
theorem fewD_cl (k : Nat) : closedD k (fewD rs ls) = true := by unfold fewD; split <;> rfl
def nextD (rs ls : List Int) (e : Dd) : D := .tup [dD e, fewD (step (rs, ls) e).1 (step (rs, ls) e).2]
theorem closedDs_next (k : Nat) : ∀ l : List Dd, closedDs k (l.map (nextD rs ls)) = true
  | [] => rfl
  | e :: l => by
    show ((true && (closedD k (fewD (step (rs, ls) e).1 (step (rs, ls) e).2) && true)) && closedDs k (l.map (nextD rs ls))) = true
    rw [closedDs_next k l, fewD_cl]
    rfl
theorem nexts_ok (v : Vs rs ls) (h : n ≤ 1000) (hn : rs.length = n + 1) (q : QD (.cell C.length) (C ++ [.lst ((allD n).map (nextD rs ls))])) : W (m_nexts [sD rs ls] C) QD := by
  have hn1 : (n : Int) = rs.length - 1 := by omega
  have hal := allD_len n
  unfold m_nexts
  repeat' walk_at "ev"
  refine fewest_ok v (.f _ _) ?_
  repeat' walk_at "ev"
  refine w_fzL ?_
  repeat' walk_at "ev"
  refine alldeeds_ok h hn ⟨_, rfl, rfl, dD_closed _, ?_⟩
  repeat' walk_at "ev"
  refine w_lcA (f := nextD rs ls) (okG_nil _) (fun i e he => ?_) ?_
  · have heo := allD_ok n e (List.mem_of_getElem? he)
    obtain ⟨v1, l1⟩ := step_vs v hn1 heo
    repeat' walk_at "ev"
    refine behindF_ok (h := [e]) v hn1 (OkH.one heo) (w_var rfl ⟨rfl, .f _ _⟩) ?_ ?_
    · repeat' walk_at "ev"
      exact ⟨rfl, .f _⟩
    repeat' walk_at "ev"
    refine fewest_ok v1 (.f _ _) ?_
    repeat' walk_at "ev"
    exact ⟨rfl, rfl⟩
  repeat' walk_at "ev"
  exact W.of (fin_cell0 (closedDs_next _ _)) q
end


/-! the hands that a deed changes -/
abbrev Hd := Str × Int × Int × Int
abbrev hD (e : Hd) : D := .tup [.str e.1, .int e.2.1, .int e.2.2.1, .int e.2.2.2]
def newR (p : List Int × List Int) (e : Dd) : Int := if e.1 = "go" then doR p e else e.2
def newL (p : List Int × List Int) (e : Dd) : Int := if e.1 = "go" then doL p e else e.2
def oldR (p : List Int × List Int) (e : Dd) : Int := p.1.getD (doL p e).toNat 0
def oldL (p : List Int × List Int) (e : Dd) : Int := p.2.getD (doR p e - 1).toNat 0
def chOf (p : List Int × List Int) (e : Dd) : List Hd :=
  (if oldR p e = newR p e then ([] : List Hd) else [(("right", doL p e, oldR p e, newR p e) : Hd)]) ++ (if oldL p e = newL p e then ([] : List Hd) else [(("left", doR p e, oldL p e, newL p e) : Hd)])
theorem hD_closed (l : List Hd) : closedDs 0 (l.map hD) = true := closedDs_map (fun _ => rfl) l
section
variable {rs ls : List Int} {C : Store} {QD : D → Store → Prop} {x : D} {e : Dd} {n : Int}
theorem changed_ok (hx : IsSt C x rs ls) (v : Vs rs ls) (hn : n = rs.length - 1) (he : OkD n e) (q : QD (.cell C.length) (C ++ [.lst ((chOf (rs, ls) e).map hD)])) : W (m_changed [x, dD e] C) QD := by
  obtain ⟨a, b, rfl, ha, hb⟩ := id hx
  have he' := he
  obtain ⟨k, d⟩ := e
  obtain ⟨h0, h1, h2⟩ := he
  simp only at h1 h2
  have vl := v.len
  obtain ⟨r, hr, _, r1, r2, er⟩ := v.rx (i := d) (by omega) (by omega)
  obtain ⟨l, hl, _, l1, l2, el⟩ := v.lx (i := d - 1) (by omega) (by omega)
  obtain ⟨r', hr', a1, _, _, er'⟩ := v.rx (i := l) (by omega) (by omega)
  obtain ⟨l', hl', a2, _, _, el'⟩ := v.lx (i := r - 1) (by omega) (by omega)
  have e1 : doR (rs, ls) (k, d) = r := er
  have e2 : doL (rs, ls) (k, d) = l := el
  have e3 : oldR (rs, ls) (k, d) = r' := by unfold oldR; rw [e2]; exact er'
  have e4 : oldL (rs, ls) (k, d) = l' := by unfold oldL; rw [e1]; exact el'
  have e5 : (if k = "go" then r else d) = newR (rs, ls) (k, d) := by unfold newR; rw [e1]
  have e6 : (if k = "go" then l else d) = newL (rs, ls) (k, d) := by unfold newL; rw [e2]
  unfold chOf at q
  rw [e1, e2, e3, e4] at q
  unfold m_changed
  repeat' walk_at "ev"
  refine need_ok hx v ?_
  repeat' walk_at "ev"
  refine dancers_ok hx ?_
  repeat' walk_at "ev"
  refine needdeeds_ok (h := [(k, d)]) (.f _) (OkH.one (by rw [← hn]; exact he')) ?_
  repeat' walk_at "ev"
  refine w_fzL ?_
  repeat' walk_at "ev"
  refine handsby_ok hx.app v hn he' ?_
  refine ⟨_, rfl, rfl, rfl, ?_⟩
  simp only [e1, e2, e5, e6]
  repeat' walk_at "ev"
  refine w_forCons ?_
  repeat' walk_at "ev"
  refine ha.app.ix a1 ?_
  repeat' walk_at "ev"
  by_cases g1 : r' = newR (rs, ls) (k, d)
  · refine ite_f (by simp [g1]) ?_
    repeat' walk_at "ev"
    refine w_forCons ?_
    repeat' walk_at "ev"
    refine hb.app.ix a2 ?_
    repeat' walk_at "ev"
    by_cases g2 : l' = newL (rs, ls) (k, d)
    · refine ite_f (by simp [g2]) ?_
      repeat' walk_at "ev"
      refine w_forNil ?_
      repeat' walk_at "ev"
      rw [if_pos g1, if_pos g2] at q
      exact fin_one0 (k := 0) rfl rfl q
    · refine ite_t (by simp [g2]) ?_
      repeat' walk_at "ev"
      refine isL_and (w_chkC at_app0) ?_
      repeat' walk_at "ev"
      rw [set_app0]
      refine w_forNil ?_
      repeat' walk_at "ev"
      rw [if_pos g1, if_neg g2] at q
      exact fin_one0 (k := 0) rfl rfl q
  · refine ite_t (by simp [g1]) ?_
    repeat' walk_at "ev"
    refine isL_and (w_chkC at_app0) ?_
    repeat' walk_at "ev"
    rw [set_app0]
    refine w_forCons ?_
    repeat' walk_at "ev"
    refine hb.app.ix a2 ?_
    repeat' walk_at "ev"
    by_cases g2 : l' = newL (rs, ls) (k, d)
    · refine ite_f (by simp [g2]) ?_
      repeat' walk_at "ev"
      refine w_forNil ?_
      repeat' walk_at "ev"
      rw [if_neg g1, if_pos g2] at q
      exact fin_one0 (k := 0) rfl rfl q
    · refine ite_t (by simp [g2]) ?_
      repeat' walk_at "ev"
      refine isL_and (w_chkC at_app0) ?_
      repeat' walk_at "ev"
      rw [set_app0]
      refine w_forNil ?_
      repeat' walk_at "ev"
      rw [if_neg g1, if_neg g2] at q
      exact fin_one0 (k := 0) rfl rfl q
end


section
variable {rs ls : List Int} {C : Store} {QD : D → Store → Prop} {x : D} {e : Dd} {n : Int}
theorem ahead_ok (v : Vs rs ls) (hx : IsSt C x rs ls) (q : QD (.cell C.length) (C ++ [.dk (onesOf (lostOf rs ls))])) : W (m_forgotten_ahead [x] C) QD := by
  have h1 := lost_len (rs := rs) (ls := ls)
  have h2 := v.top
  unfold m_forgotten_ahead
  repeat' walk_at "ev"
  refine w_mDc ?_
  repeat' walk_at "ev"
  refine forgottenF_ok v (w_var rfl ⟨rfl, hx⟩) ?_
  repeat' walk_at "ev"
  refine w_dcA (p := fun _ => true) (kf := fun a => Sum.inl a) (vf := fun _ => .bl true) (okG_nil _) (by omega) (fun i a ha => ?_) ?_
  · repeat' walk_at "ev"
    refine ⟨rfl, rfl, fun _ => ?_⟩
    repeat' walk_at "ev"
    exact ⟨rfl, rfl, rfl⟩
  rw [filter_all]
  repeat' walk_at "ev"
  exact W.of (fin_cell0 (onesCl _)) q
/-- what a deed lets be forgotten -/
def newLost (rs ls : List Int) (e : Dd) : List Int := (lostOf (step (rs, ls) e).1 (step (rs, ls) e).2).filter fun b => !((lostOf rs ls).any fun y => y == b)
theorem newly_ok {k : Nat} (v : Vs rs ls) (hx : IsSt C x rs ls) (hn : n = rs.length - 1) (he : OkD n e) (hk : C[k]? = some (.dk (onesOf (lostOf rs ls)))) (q : QD (.cell C.length) (C ++ [.lst ((newLost rs ls e).map D.int)])) : W (m_newly_forgotten [x, dD e, .cell k] C) QD := by
  obtain ⟨v1, l1⟩ := step_vs v hn he
  have h1 := lost_len (rs := (step (rs, ls) e).1) (ls := (step (rs, ls) e).2)
  have h2 := v1.top
  unfold m_newly_forgotten
  repeat' walk_at "ev"
  refine forgottenF_ok v1 ?_ ?_
  · refine behindF_ok (h := [e]) v hn (OkH.one he) (w_var rfl ⟨rfl, hx⟩) ?_ ⟨rfl, .f _ _⟩
    repeat' walk_at "ev"
    exact ⟨rfl, .f _⟩
  repeat' walk_at "ev"
  refine w_lcAf (p := fun b => !((lostOf rs ls).any fun y => y == b)) (f := D.int) (okG_nil _) (fun i b hb => ?_) ?_
  · repeat' walk_at "ev"
    refine w_dinK ?_
    repeat' walk_at "ev"
    refine ⟨k, _, Sum.inl b, rfl, hk, rfl, ?_⟩
    rw [onesIn]
    repeat' walk_at "ev"
    refine ⟨rfl, rfl, fun _ => ?_⟩
    repeat' walk_at "ev"
    exact ⟨rfl, rfl⟩
  refine w_newC ?_
  repeat' walk_at "ev"
  exact W.of (fin_cell0 (closedDs_ints _ _)) q
theorem forgets_ok (v : Vs rs ls) (hx : IsSt C x rs ls) (hn : n = rs.length - 1) (he : OkD n e) (q : QD (.cell C.length) (C ++ [.lst ((newLost rs ls e).map D.int)])) : W (m_forgets [x, dD e] C) QD := by
  unfold m_forgets
  repeat' walk_at "ev"
  refine ahead_ok v hx ?_
  repeat' walk_at "ev"
  refine newly_ok v hx.app hn he at_app0 ?_
  rw [List.append_assoc, List.length_append]
  repeat' walk_at "ev"
  exact fin_one0 (k := 1) rfl (closedDs_ints _ _) q
end


theorem cut_take {A : Type} (f : A → D) (l : List A) (m : Int) (h : 0 ≤ m) : cutD (l.map f) none (some m) = (l.take m.toNat).map f := by
  rw [cutD_map]
  congr 1
  unfold HT.sIx
  simp only
  rw [if_neg (by omega), List.drop_zero, Nat.sub_zero]
  by_cases hm : m.toNat ≤ l.length
  · rw [Nat.min_eq_left hm]
  · rw [Nat.min_eq_right (by omega), List.take_of_length_le (Nat.le_refl _), List.take_of_length_le (by omega)]
theorem cut_drop {A : Type} (f : A → D) (l : List A) (m : Int) (h : 0 ≤ m) : cutD (l.map f) (some m) none = (l.drop m.toNat).map f := by
  rw [cutD_map]
  congr 1
  unfold HT.sIx
  simp only
  rw [if_neg (by omega)]
  by_cases hm : m.toNat ≤ l.length
  · rw [Nat.min_eq_left hm, List.take_of_length_le (by simp)]
  · rw [Nat.min_eq_right (by omega), List.drop_of_length_le (Nat.le_refl _), List.drop_of_length_le (by omega)]
    simp


/-! what ends by an error -/
def EXp {A : Type} (o : R A) (P : Exn → Store → Prop) : Prop := ∃ x C, o = .ex x C ∧ P x C
section
variable {A S S2 : Type} {P : Exn → Store → Prop} {sl : Sl} {C : Store} {m : ME} {mas : MG (List D)} {u u1 u2 : MS} {t : MG Bool} {x f : Str} {n : Nat} {mf : MF} {g : MT} {ds : List D} {hm : Exn → MS} {QS : Fl → Sl → Store → Prop}
theorem x_bind {B : Type} {o : R A} {k : A → R B} (h : EXp o P) : EXp (o.bind k) P := by
  obtain ⟨x, C, rfl, p⟩ := h
  exact ⟨x, C, rfl, p⟩
theorem x_bindW {o : R (S × Store)} {k : S × Store → R A} (h : W o fun a C => EXp (k (a, C)) P) : EXp (o.bind k) P := by
  obtain ⟨a, C, rfl, p⟩ := h
  exact p
theorem x_seq1 (h : EXp (u1 sl C) P) : EXp (sSeq u1 u2 sl C) P := x_bind h
theorem x_seq (h : WS (u1 sl C) fun f sl1 C1 => f = .nx ∧ EXp (u2 sl1 C1) P) : EXp (sSeq u1 u2 sl C) P := by
  obtain ⟨f, sl1, C1, e, rfl, p⟩ := h
  unfold sSeq
  rw [e]
  exact p
theorem x_if (h : W (t sl C) fun b C1 => if b = true then EXp (u1 sl C1) P else EXp (u2 sl C1) P) : EXp (sIf t u1 u2 sl C) P := x_bindW (h.imp fun b C1 h => by
  cases b with
  | true => exact h
  | false => exact h)
theorem x_raise (h : W (m sl C) fun d C1 => P ⟨x, some (f, d)⟩ C1) : EXp (sRaise1 x f m sl C) P := x_bindW (h.imp fun d C1 h => ⟨_, _, rfl, h⟩)
theorem x_asg (h : EXp (m sl C) P) : EXp (sAsg m g sl C) P := x_bind h
theorem x_drop (h : EXp (m sl C) P) : EXp (sDrop m sl C) P := x_bind h
theorem x_ret (h : EXp (m sl C) P) : EXp (sRet m sl C) P := x_bind h
theorem x_fz {n : Nat} (h : EXp (m sl C) P) : EXp (mFz n m sl C) P := x_bind h
theorem x_aCons {ms : MG (List D)} (h : EXp (m sl C) P) : EXp (aCons m ms sl C) P := x_bind h
theorem x_Fa (h : EXp (mas sl C) P) : EXp (mF n mf mas sl C) P := x_bind h
theorem x_F (h : W (mas sl C) fun xs C1 => xs.length = n ∧ EXp (mf xs C1) P) : EXp (mF n mf mas sl C) P := x_bindW (h.imp fun xs C1 h => by
  simp only [if_pos h.1]
  exact h.2)
theorem x_runn {sl' : Sl} (e : ds.map some ++ List.replicate (n - ds.length) none = sl') (h : EXp (u sl' C) P) : EXp (runD n u ds C) P := by
  subst e
  exact x_bind h
theorem w_tryN {mb : MS} (h : WS (mb sl C) QS) : WS (sTry mb hm sl C) QS := by
  obtain ⟨f, sl1, C1, e, q⟩ := h
  refine ⟨f, sl1, C1, ?_, q⟩
  unfold sTry
  rw [e]
theorem w_tryX {mb : MS} (h : EXp (mb sl C) fun x C1 => WS (hm x sl C1) QS) : WS (sTry mb hm sl C) QS := by
  obtain ⟨x, C1, e, f, sl2, C2, e2, q⟩ := h
  refine ⟨f, sl2, C2, ?_, q⟩
  unfold sTry
  rw [e]
  exact e2
end

/-! whether anything at all is a stand -/
def okE : D → Bool
  | .cell _ => false
  | .exc _ _ _ => false
  | .fn _ => false
  | _ => true
def okT : D → Bool
  | .lst xs => xs.all okE && decide (xs.length ≤ 1000)
  | x => okE x
def okS : D → Bool
  | .tup xs => xs.all okT && decide (xs.length ≤ 1000)
  | x => okE x
def isLs : D → Bool
  | .lst _ => true
  | _ => false
def betD : D → Int → Int → Bool
  | .int x, a, b => decide (a ≤ x ∧ x ≤ b)
  | _, _, _ => false
def lowsD (rs : List D) (m : Nat) : Bool := ((List.range m).map fun i : Nat => betD (rs.getD i .non) ((i : Int) + 1) m).all id
def topsD (ls : List D) (m : Nat) : Bool := ((List.range m).map fun i : Nat => betD (ls.getD i .non) 0 i).all id
def isStD : D → Bool
  | .tup [.lst rs, .lst ls] => decide (2 ≤ rs.length) && decide (ls.length = rs.length) && lowsD rs rs.length && topsD ls rs.length
  | _ => false
theorem atI_D {l : List D} {i : Nat} (h : i < l.length) : atI l (i : Int) = some (l.getD i .non) := by
  unfold atI
  rw [ixN_int (by omega) (by omega), Option.bind_some, Int.toNat_natCast, List.getD_eq_getElem?_getD, List.getElem?_eq_getElem h]
  rfl
theorem okT_E {x : D} (h : okT x = true) : okE x = true := by
  cases x with
  | lst xs => rfl
  | _ => exact h
section
variable {C : Store} {QD : D → Store → Prop}
theorem isl_any {d : D} (h : okE d = true) (q : QD (.bl (isLs d)) C) : W (gIsi "list" d C) QD := by
  cases d with
  | cell i => exact nomatch (show false = true from h)
  | exc _ _ _ => exact nomatch (show false = true from h)
  | fn _ => exact nomatch (show false = true from h)
  | lst xs => exact w_isiT (t := "list") rfl (by decide +kernel) q
  | non => exact w_isiF (t := "NoneType") rfl (by decide +kernel) q
  | bl b => exact w_isiF (t := "bool") rfl (by decide +kernel) q
  | int b => exact w_isiF (t := "int") rfl (by decide +kernel) q
  | str b => exact w_isiF (t := "str") rfl (by decide +kernel) q
  | tup b => exact w_isiF (t := "tuple") rfl (by decide +kernel) q
  | edct => exact w_isiF (t := "dict") rfl (by decide +kernel) q
theorem between_any {d : D} {a b : Int} (h : okE d = true) (q : QD (.bl (betD d a b)) C) : W (m_is_between [d, .int a, .int b] C) QD := by
  cases d with
  | cell i => exact nomatch (show false = true from h)
  | exc _ _ _ => exact nomatch (show false = true from h)
  | fn _ => exact nomatch (show false = true from h)
  | int x => exact between_ok q
  | _ =>
    unfold m_is_between
    repeat' walk_at "ev"
    exact fin_same rfl rfl q
theorem isst_any {d : D} (h : okS d = true) (q : QD (.bl (isStD d)) C) : W (m_is_stand [d] C) QD := by
  cases d with
  | cell i => exact nomatch (show false = true from h)
  | exc _ _ _ => exact nomatch (show false = true from h)
  | fn _ => exact nomatch (show false = true from h)
  | tup xs =>
    have h : (xs.all okT && decide (xs.length ≤ 1000)) = true := h
    rw [Bool.and_eq_true] at h
    obtain ⟨h1, h2⟩ := h
    have h2 := of_decide_eq_true h2
    unfold m_is_stand
    repeat' walk_at "ev"
    refine w_ite (fun e => ?_) (fun e => ?_)
    · have e : xs.length ≠ 2 := by
        simp at e
        omega
      repeat' walk_at "ev"
      refine fin_same rfl rfl ?_
      have : isStD (.tup xs) = false := by
        unfold isStD
        split
        · rename_i e2
          cases e2
          exact absurd rfl e
        · rfl
      rwa [this] at q
    · have e : xs.length = 2 := by
        simp at e
        omega
      match xs, e with
      | [a, b], _ =>
      have ha : okT a = true := List.all_eq_true.mp h1 a (by simp)
      have hb : okT b = true := List.all_eq_true.mp h1 b (by simp)
      repeat' walk_at "ev"
      refine isl_any (okT_E ha) ?_
      repeat' walk_at "ev"
      refine isl_any (okT_E hb) ?_
      repeat' walk_at "ev"
      refine w_all (bs := [isLs a, isLs b]) ?_
      repeat' walk_at "ev"
      refine w_ite (fun e => ?_) (fun e => ?_)
      · have e : ¬ (isLs a = true ∧ isLs b = true) := fun z => by
          rw [z.1, z.2] at e
          simp at e
        repeat' walk_at "ev"
        refine fin_same rfl rfl ?_
        have : isStD (.tup [a, b]) = false := by
          unfold isStD
          split
          · rename_i e2
            cases e2
            exact absurd ⟨rfl, rfl⟩ e
          · rfl
        rwa [this] at q
      · have e : isLs a = true ∧ isLs b = true := by simpa using e
        cases a with
        | lst rs =>
          cases b with
          | lst ls =>
            have ha : (rs.all okE && decide (rs.length ≤ 1000)) = true := ha
            have hb : (ls.all okE && decide (ls.length ≤ 1000)) = true := hb
            rw [Bool.and_eq_true] at ha hb
            have hrl := of_decide_eq_true ha.2
            have hll := of_decide_eq_true hb.2
            have hr : ∀ i : Nat, okE (rs.getD i .non) = true := fun i => by
              rw [List.getD_eq_getElem?_getD]
              cases g : rs[i]? with
              | none => rfl
              | some y => exact List.all_eq_true.mp ha.1 y (List.mem_of_getElem? g)
            have hl : ∀ i : Nat, okE (ls.getD i .non) = true := fun i => by
              rw [List.getD_eq_getElem?_getD]
              cases g : ls[i]? with
              | none => rfl
              | some y => exact List.all_eq_true.mp hb.1 y (List.mem_of_getElem? g)
            have q : QD (.bl (decide (2 ≤ rs.length) && decide (ls.length = rs.length) && lowsD rs rs.length && topsD ls rs.length)) C := q
            repeat' walk_at "ev"
            refine w_ite (fun e => ?_) (fun e => ?_)
            · have e : rs.length < 2 := by
                have := of_decide_eq_true e
                omega
              repeat' walk_at "ev"
              refine fin_same rfl rfl ?_
              rw [decide_eq_false (show ¬ 2 ≤ rs.length by omega)] at q
              exact q
            have e2 : 2 ≤ rs.length := by
              have := of_decide_eq_false e
              omega
            rw [decide_eq_true e2, Bool.true_and] at q
            repeat' walk_at "ev"
            refine w_ite (fun e => ?_) (fun e => ?_)
            · have e : ls.length ≠ rs.length := by
                intro z
                rw [z] at e
                simp at e
              repeat' walk_at "ev"
              refine fin_same rfl rfl ?_
              rw [decide_eq_false e] at q
              exact q
            have e3 : ls.length = rs.length := by
              by_cases z : ls.length = rs.length
              · exact z
              · exact absurd e (by simp; omega)
            rw [decide_eq_true e3, Bool.true_and] at q
            repeat' walk_at "ev"
            refine w_lcRg (n := rs.length) (f := fun i : Nat => .bl (betD (rs.getD i .non) ((i : Int) + 1) rs.length)) (fun i hi => ?_) ?_
            · have g : atI rs (i : Int) = some (rs.getD i .non) := atI_D hi
              repeat' walk_at "ev"
              exact between_any (hr i) ⟨rfl, rfl⟩
            repeat' walk_at "ev"
            rw [show (List.range rs.length).map (fun i : Nat => D.bl (betD (rs.getD i .non) ((i : Int) + 1) rs.length)) = ((List.range rs.length).map fun i : Nat => betD (rs.getD i .non) ((i : Int) + 1) rs.length).map D.bl from by rw [List.map_map]; rfl]
            refine w_all ?_
            have q : QD (.bl (lowsD rs rs.length && topsD ls rs.length)) C := q
            rw [show (((List.range rs.length).map fun i : Nat => betD (rs.getD i .non) ((i : Int) + 1) rs.length).all id) = lowsD rs rs.length from rfl]
            cases hlow : lowsD rs rs.length with
            | false =>
              rw [hlow] at q
              repeat' walk_at "ev"
              exact fin_same rfl rfl q
            | true =>
              rw [hlow] at q
              repeat' walk_at "ev"
              refine w_lcRg (n := rs.length) (f := fun i : Nat => .bl (betD (ls.getD i .non) 0 i)) (fun i hi => ?_) ?_
              · have hi2 : i < ls.length := by omega
                have g : atI ls (i : Int) = some (ls.getD i .non) := atI_D hi2
                repeat' walk_at "ev"
                exact between_any (hl i) ⟨rfl, rfl⟩
              repeat' walk_at "ev"
              rw [show (List.range rs.length).map (fun i : Nat => D.bl (betD (ls.getD i .non) 0 i)) = ((List.range rs.length).map fun i : Nat => betD (ls.getD i .non) 0 i).map D.bl from by rw [List.map_map]; rfl]
              refine w_all ?_
              exact fin_same rfl rfl q
          | _ => exact nomatch (show false = true from e.2)
        | _ => exact nomatch (show false = true from e.1)
  | _ =>
    unfold m_is_stand
    repeat' walk_at "ev"
    exact fin_same rfl rfl q
end


/-! whether anything at all is a deed, a history -/
def okU : D → Bool
  | .tup xs => xs.all okE && decide (xs.length ≤ 1000)
  | x => okE x
def okZ : D → Bool
  | .lst xs => xs.all okU && decide (xs.length ≤ 1000)
  | x => okE x
def deedB (n : Int) : D → Bool
  | .tup [.str w, .int i] => (decide (w = "go") || decide (w = "come")) && decide (1 ≤ i ∧ i ≤ n)
  | _ => false
def faultL (n : Int) : List D → Nat → Option Nat
  | [], _ => none
  | d :: ds, k => if deedB n d = true then faultL n ds (k + 1) else some (k + 1)
def faultD (n : Int) : D → Option Nat
  | .lst ds => faultL n ds 0
  | _ => some 0
theorem fault_some {n : Int} : ∀ {ds : List D} {k j : Nat}, faultL n ds k = some j → ∃ i : Nat, j = k + i + 1 ∧ (∃ d, ds[i]? = some d ∧ deedB n d = false) ∧ ∀ (m : Nat) (d : D), m < i → ds[m]? = some d → deedB n d = true
  | [], _, _, e => nomatch e
  | d :: ds, k, j, e => by
    unfold faultL at e
    by_cases c : deedB n d = true
    · rw [if_pos c] at e
      obtain ⟨i, h1, h2, h3⟩ := fault_some e
      refine ⟨i + 1, by omega, by simpa using h2, fun m x hm hx => ?_⟩
      cases m with
      | zero => cases hx; exact c
      | succ m => exact h3 m x (by omega) (by simpa using hx)
    · rw [if_neg c] at e
      cases e
      exact ⟨0, rfl, ⟨d, rfl, Bool.eq_false_iff.mpr c⟩, fun m x hm => absurd hm (by omega)⟩
section
variable {C : Store} {QD : D → Store → Prop} {n : Int}
theorem between_any3 {d b : D} {a : Int} (h : okE d = true) (hi : ∀ i, d ≠ .int i) (q : QD (.bl false) C) : W (m_is_between [d, .int a, b] C) QD := by
  cases d with
  | cell i => exact nomatch (show false = true from h)
  | exc _ _ _ => exact nomatch (show false = true from h)
  | fn _ => exact nomatch (show false = true from h)
  | int x => exact absurd rfl (hi x)
  | _ =>
    unfold m_is_between
    repeat' walk_at "ev"
    exact fin_same rfl rfl q
/-- mo: the last dancer, or None for any -/
theorem isdeed_any {d mo : D} (hm : mo = .int n ∨ mo = .non ∧ ∀ w i, d = .tup [.str w, .int i] → i ≤ n) (h : okU d = true) (q : QD (.bl (deedB n d)) C) : W (m_is_deed [d, mo] C) QD := by
  cases d with
  | cell i => exact nomatch (show false = true from h)
  | exc _ _ _ => exact nomatch (show false = true from h)
  | fn _ => exact nomatch (show false = true from h)
  | tup xs =>
    have h : (xs.all okE && decide (xs.length ≤ 1000)) = true := h
    rw [Bool.and_eq_true] at h
    obtain ⟨h1, h2⟩ := h
    have h2 := of_decide_eq_true h2
    unfold m_is_deed
    repeat' walk_at "ev"
    refine w_ite (fun e => ?_) (fun e => ?_)
    · have hne : xs.length ≠ 2 := by
        simp at e
        omega
      repeat' walk_at "ev"
      refine fin_same rfl rfl ?_
      have : deedB n (.tup xs) = false := by
        unfold deedB
        split
        · rename_i e2
          cases e2
          exact absurd rfl hne
        · rfl
      rwa [this] at q
    · have e : xs.length = 2 := by
        simp at e
        omega
      match xs, e with
      | [a, b], _ =>
      have ha : okE a = true := List.all_eq_true.mp h1 a (by simp)
      have hb : okE b = true := List.all_eq_true.mp h1 b (by simp)
      have no : (∀ w, a ≠ .str w) → deedB n (.tup [a, b]) = false := fun hno => by
        unfold deedB
        split
        · rename_i e2
          cases e2
          exact absurd rfl (hno _)
        · rfl
      have no2 : (∀ w, b ≠ .int w) → deedB n (.tup [a, b]) = false := fun hno => by
        unfold deedB
        split
        · rename_i e2
          cases e2
          exact absurd rfl (hno _)
        · rfl
      cases a with
      | cell i => exact nomatch (show false = true from ha)
      | exc _ _ _ => exact nomatch (show false = true from ha)
      | fn _ => exact nomatch (show false = true from ha)
      | str w =>
        repeat' walk_at "ev"
        refine w_inT (l := ["go", "come"]) ?_
        rw [show (if true = true then !((["go", "come"] : List Str).any fun y => y == w) else (["go", "come"] : List Str).any fun y => y == w) = !(decide (w = "go") || decide (w = "come")) from by
          rw [if_pos rfl]
          have e1 : ∀ x : Str, (x == w) = decide (w = x) := fun x => by
            rw [Bool.eq_iff_iff, beq_iff_eq, decide_eq_true_iff]
            exact eq_comm
          show (!(("go" == w) || (("come" == w) || false))) = _
          rw [Bool.or_false, e1, e1]]
        cases hw : (decide (w = ("go" : Str)) || decide (w = ("come" : Str))) with
        | false =>
          repeat' walk_at "ev"
          refine fin_same rfl rfl ?_
          have : deedB n (.tup [.str w, b]) = false := by
            unfold deedB
            split
            · rename_i e2
              cases e2
              rw [hw]
              rfl
            · rfl
          rwa [this] at q
        | true =>
          repeat' walk_at "ev"
          rcases hm with rfl | ⟨rfl, hm⟩
          · repeat' walk_at "ev"
            refine between_any hb ?_
            repeat' walk_at "ev"
            refine fin_same rfl rfl ?_
            cases b with
            | int i =>
              have q : QD (.bl ((decide (w = "go") || decide (w = "come")) && decide (1 ≤ i ∧ i ≤ n))) C := q
              rw [hw, Bool.true_and] at q
              exact q
            | _ =>
              rw [no2 (fun _ e => nomatch e)] at q
              exact q
          · repeat' walk_at "ev"
            cases b with
            | int i =>
              refine between_ok ?_
              repeat' walk_at "ev"
              refine fin_same rfl rfl ?_
              have q : QD (.bl ((decide (w = "go") || decide (w = "come")) && decide (1 ≤ i ∧ i ≤ n))) C := q
              have := hm w i rfl
              rw [hw, Bool.true_and, show decide (1 ≤ i ∧ i ≤ n) = decide (1 ≤ i ∧ i ≤ i) from by rw [decide_eq_decide]; omega] at q
              exact q
            | cell i => exact nomatch (show false = true from hb)
            | exc _ _ _ => exact nomatch (show false = true from hb)
            | fn _ => exact nomatch (show false = true from hb)
            | _ =>
              refine between_any3 hb (fun _ e => nomatch e) ?_
              repeat' walk_at "ev"
              refine fin_same rfl rfl ?_
              rw [no2 (fun _ e => nomatch e)] at q
              exact q
      | _ =>
        repeat' walk_at "ev"
        refine fin_same rfl rfl ?_
        rwa [no (fun _ e => nomatch e)] at q
  | _ =>
    unfold m_is_deed
    repeat' walk_at "ev"
    exact fin_same rfl rfl q
end


theorem x_forM {g : MT} {u : MS} {gd : Gd} {P : Exn → Store → Prop} (Inv : Nat → Sl → Store → Prop) (k : Nat) (hg : ∀ i sl C, Inv i sl C → okG gd C) {ds : List D} {sl : Sl} {C : Store}
    (step : ∀ i d sl C, i < k → ds[i]? = some d → Inv i sl C → W (g d sl C) fun sl1 C1 => WS (u sl1 C1) fun f sl2 C2 => f = .nx ∧ Inv (i + 1) sl2 C2)
    (last : ∀ d sl C, ds[k]? = some d → Inv k sl C → W (g d sl C) fun sl1 C1 => EXp (u sl1 C1) P) (hk : k < ds.length) (h0 : Inv 0 sl C) : EXp (Nv.forM g u gd ds sl C) P := by
  suffices h : ∀ (m : Nat) (es : List D) (i : Nat) sl C, es = ds.drop i → k = i + m → Inv i sl C → EXp (Nv.forM g u gd es sl C) P from h k ds 0 sl C rfl (by omega) h0
  intro m
  induction m with
  | zero =>
    intro es i sl C he hi inv
    have hik : i = k := by omega
    subst hik
    obtain ⟨d, hd⟩ : ∃ d, ds[i]? = some d := ⟨ds[i], List.getElem?_eq_getElem hk⟩
    rw [List.drop_eq_getElem_cons hk] at he
    have hdk : ds[i] = d := by
      rw [List.getElem?_eq_getElem hk] at hd
      exact Option.some.inj hd
    rw [hdk] at he
    subst he
    unfold Nv.forM
    rw [if_pos (hg _ _ _ inv)]
    obtain ⟨sl1, C1, e1, h1⟩ := last d sl C hd inv
    rw [e1]
    obtain ⟨x, C2, e2, p⟩ := h1
    refine ⟨x, C2, ?_, p⟩
    show (u sl1 C1).bind _ = _
    rw [e2]
    rfl
  | succ m ih =>
    intro es i sl C he hi inv
    have hil : i < ds.length := by omega
    obtain ⟨d, hd⟩ : ∃ d, ds[i]? = some d := ⟨ds[i], List.getElem?_eq_getElem hil⟩
    rw [List.drop_eq_getElem_cons hil] at he
    have hdk : ds[i] = d := by
      rw [List.getElem?_eq_getElem hil] at hd
      exact Option.some.inj hd
    rw [hdk] at he
    subst he
    unfold Nv.forM
    rw [if_pos (hg _ _ _ inv)]
    obtain ⟨sl1, C1, e1, f, sl2, C2, e2, rfl, h2⟩ := step i d sl C (by omega) hd inv
    rw [e1]
    obtain ⟨x, C3, e3, p⟩ := ih (ds.drop (i + 1)) (i + 1) sl2 C2 rfl (by omega) h2
    refine ⟨x, C3, ?_, p⟩
    show (u sl1 C1).bind _ = _
    rw [e2]
    exact e3
section
variable {C : Store} {QD : D → Store → Prop} {n : Int} {P : Exn → Store → Prop} {sl : Sl}
theorem x_raise0 {x : Str} (h : P ⟨x, none⟩ C) : EXp (sRaise0 x sl C) P := ⟨_, _, rfl, h⟩
theorem x_sFor {mi : MI} {g : MT} {u : MS} (h : W (mi sl C) fun p C1 => EXp (Nv.forM g u p.2 p.1 sl C1) P) : EXp (sFor mi g u sl C) P := x_bindW h
theorem needd_x {z mo : D} {k : Nat} (hm : ∀ d, (∃ ds, z = .lst ds ∧ d ∈ ds) → mo = .int n ∨ mo = .non ∧ ∀ w i, d = .tup [.str w, .int i] → i ≤ n) (ho : okZ z = true) (hf : faultD n z = some k) (p : P ⟨"NoDeed", some ("at", .int k)⟩ C) : EXp (m_need_deeds [z, mo] C) P := by
  unfold m_need_deeds
  cases z with
  | cell i => exact nomatch (show false = true from ho)
  | exc _ _ _ => exact nomatch (show false = true from ho)
  | fn _ => exact nomatch (show false = true from ho)
  | lst ds =>
    have ho : (ds.all okU && decide (ds.length ≤ 1000)) = true := ho
    rw [Bool.and_eq_true] at ho
    have hl := of_decide_eq_true ho.2
    obtain ⟨i, e, ⟨d, hd, hb⟩, hall⟩ := fault_some (show faultL n ds 0 = some k from hf)
    have hi := (List.getElem?_eq_some_iff.mp hd).1
    refine x_runn (by walk_at "sr") (x_seq ?_)
    repeat' walk_at "ev"
    refine ⟨rfl, ?_⟩
    refine x_sFor ?_
    repeat' walk_at "ev"
    refine x_forM (fun i sl C1 => ∃ x2 x3, sl = [some (.lst ds), some mo, x2, x3] ∧ C1 = C) i (fun _ _ _ _ => okG_nil _) ?_ ?_ ?_ ⟨_, _, rfl, rfl⟩
    · intro j x sl C1 hj hx hinv
      obtain ⟨x2, x3, rfl, rfl⟩ := hinv
      obtain ⟨a, rfl, ha⟩ := enumGet hx
      have hxb := hall j a hj ha
      repeat' walk_at "ev"
      refine isdeed_any (n := n) (hm a ⟨ds, rfl, List.mem_of_getElem? ha⟩) (List.all_eq_true.mp ho.1 a (List.mem_of_getElem? ha)) ?_
      rw [hxb]
      repeat' walk_at "ev"
      exact ⟨rfl, _, _, rfl, rfl⟩
    · intro x sl C1 hx hinv
      obtain ⟨x2, x3, rfl, rfl⟩ := hinv
      obtain ⟨a, rfl, ha⟩ := enumGet hx
      rw [hd] at ha
      cases ha
      repeat' walk_at "ev"
      refine x_if ?_
      repeat' walk_at "ev"
      refine isdeed_any (n := n) (hm d ⟨ds, rfl, List.mem_of_getElem? hd⟩) (List.all_eq_true.mp ho.1 d (List.mem_of_getElem? hd)) ?_
      rw [hb]
      repeat' walk_at "ev"
      refine x_raise ?_
      repeat' walk_at "ev"
      have hk : ((0 : Int) + i + 1) = k := by omega
      have hk2 : ((i : Int) + 1) = k := by omega
      first | (rw [hk2]; exact p) | (rw [hk]; exact p)
    · rw [enumD_length]
      exact hi
  | _ =>
    cases hf
    refine x_runn (by walk_at "sr") (x_seq1 (x_if ?_))
    repeat' walk_at "ev"
    refine x_raise ?_
    repeat' walk_at "ev"
    exact p
end


/-! which one class a refusal is of -/
section
variable {C : Store} {QD : D → Store → Prop}
theorem w_isOwn {tb : List (Str × List Str)} {t c f : Str} {vs : List D} {as : List Str} (hl : tb.lookup c = some as) (q : QD (.bl (as.contains t)) C) : W (gIsOwn tb t (.exc c f vs) C) QD := by
  refine W.of (a := .bl (as.contains t)) (C := C) ?_ q
  unfold gIsOwn
  simp only [hl]
theorem w_addX {c : Bool} {x y : D} {a b : List D} (hx : IsLst C x a) (hy : IsLst C y b) (hl : a.length + b.length ≤ sizeLine) (q : W (Nv.newL c (a ++ b) C) QD) : W (gAdd c x y C) QD := by
  cases hx with
  | f =>
    cases hy with
    | f => exact w_addL hl q
    | c k ds h =>
      show W (match (some a : Option (List D)), lstOf C (.cell k) with
        | some a, some b => if a.length + b.length ≤ sizeLine then Nv.newL c (a ++ b) C else .no
        | _, _ => .no) QD
      rw [show lstOf C (.cell k) = some b from lstAt_lst h]
      simp only [if_pos hl]
      exact q
  | c j ds h1 =>
    have e2 : lstOf C y = some b := by
      cases hy with
      | f => rfl
      | c k ds h => exact lstAt_lst h
    show W (match lstOf C (.cell j), lstOf C y with
      | some a, some b => if a.length + b.length ≤ sizeLine then Nv.newL c (a ++ b) C else .no
      | _, _ => .no) QD
    rw [show lstOf C (.cell j) = some a from lstAt_lst h1, e2]
    simp only [if_pos hl]
    exact q
abbrev clsL : List Str := ["NoStand", "NoNumber", "NoOrder", "NoBorder", "Nothing", "NoName", "Taken", "NoForm", "NoDeed", "Forgotten", "NoDancer", "TooMany", "NoText"]
def hitL (as : List Str) : List Bool := clsL.map fun t => as.contains t
abbrev wordL : List Str := ["stand", "number", "order", "border", "nothing", "name", "taken", "form", "deed", "forgotten", "dancer", "many", "text"]
theorem word_of {c f : Str} {vs : List D} {as : List Str} {i : Nat} {w : Str} (hl : errTb.lookup c = some as) (h1 : ((hitL as).countP fun y => y == true) = 1) (h2 : as.contains "ValueError" = true) (h3 : (hitL as).idxOf true = i) (h4 : true ∈ hitL as) (h5 : wordL[i]? = some w) (q : QD (.str w) C) : W (m__law_word [.exc c f vs] C) QD := by
  unfold hitL at h1 h3 h4
  rw [show (clsL.map fun t => as.contains t) = [as.contains "NoStand", as.contains "NoNumber", as.contains "NoOrder", as.contains "NoBorder", as.contains "Nothing", as.contains "NoName", as.contains "Taken", as.contains "NoForm", as.contains "NoDeed", as.contains "Forgotten", as.contains "NoDancer", as.contains "TooMany", as.contains "NoText"] from rfl] at h1 h3 h4
  generalize e0 : as.contains "NoStand" = b0 at h1 h3 h4
  generalize e1 : as.contains "NoNumber" = b1 at h1 h3 h4
  generalize e2 : as.contains "NoOrder" = b2 at h1 h3 h4
  generalize e3 : as.contains "NoBorder" = b3 at h1 h3 h4
  generalize e4 : as.contains "Nothing" = b4 at h1 h3 h4
  generalize e5 : as.contains "NoName" = b5 at h1 h3 h4
  generalize e6 : as.contains "Taken" = b6 at h1 h3 h4
  generalize e7 : as.contains "NoForm" = b7 at h1 h3 h4
  generalize e8 : as.contains "NoDeed" = b8 at h1 h3 h4
  generalize e9 : as.contains "Forgotten" = b9 at h1 h3 h4
  generalize e10 : as.contains "NoDancer" = b10 at h1 h3 h4
  generalize e11 : as.contains "TooMany" = b11 at h1 h3 h4
  generalize e12 : as.contains "NoText" = b12 at h1 h3 h4
  unfold m__law_word
  repeat' walk_at "ev"
  refine w_isOwn hl ?_
  rw [show as.contains (Str.ofString "NoStand") = b0 from e0]
  repeat' walk_at "ev"
  refine w_isOwn hl ?_
  rw [show as.contains (Str.ofString "NoNumber") = b1 from e1]
  repeat' walk_at "ev"
  refine w_isOwn hl ?_
  rw [show as.contains (Str.ofString "NoOrder") = b2 from e2]
  repeat' walk_at "ev"
  refine w_isOwn hl ?_
  rw [show as.contains (Str.ofString "NoBorder") = b3 from e3]
  repeat' walk_at "ev"
  refine w_isOwn hl ?_
  rw [show as.contains (Str.ofString "Nothing") = b4 from e4]
  repeat' walk_at "ev"
  refine w_isOwn hl ?_
  rw [show as.contains (Str.ofString "NoName") = b5 from e5]
  repeat' walk_at "ev"
  refine w_isOwn hl ?_
  rw [show as.contains (Str.ofString "Taken") = b6 from e6]
  repeat' walk_at "ev"
  refine w_isOwn hl ?_
  rw [show as.contains (Str.ofString "NoForm") = b7 from e7]
  repeat' walk_at "ev"
  refine w_addX (.c _ _ at_app0) (.f _) (by show (8 : Nat) ≤ sizeLine; decide) ?_
  refine w_newC ?_
  repeat' walk_at "ev"
  refine w_isOwn hl ?_
  rw [show as.contains (Str.ofString "NoDeed") = b8 from e8]
  repeat' walk_at "ev"
  refine w_isOwn hl ?_
  rw [show as.contains (Str.ofString "Forgotten") = b9 from e9]
  repeat' walk_at "ev"
  refine w_isOwn hl ?_
  rw [show as.contains (Str.ofString "NoDancer") = b10 from e10]
  repeat' walk_at "ev"
  refine w_isOwn hl ?_
  rw [show as.contains (Str.ofString "TooMany") = b11 from e11]
  repeat' walk_at "ev"
  refine w_addX (.c _ _ at_app0) (.f _) (by show (12 : Nat) ≤ sizeLine; decide) ?_
  refine w_newC ?_
  simp only [List.append_assoc, List.length_append, List.cons_append, List.nil_append, List.length_cons, List.length_nil]
  repeat' walk_at "ev"
  refine ⟨w_chkC at_app, ?_⟩
  repeat' walk_at "ev"
  refine w_isOwn hl ?_
  rw [show as.contains (Str.ofString "NoText") = b12 from e12]
  repeat' walk_at "ev"
  refine w_append at_app (by show (12 : Nat) < sizeLine; decide) ?_
  rw [set_app]
  have hL : lstOf (C ++ List.set [Cell.lst [.bl b0, .bl b1, .bl b2, .bl b3], Cell.lst [.bl b0, .bl b1, .bl b2, .bl b3, .bl b4, .bl b5, .bl b6, .bl b7], Cell.lst [.bl b0, .bl b1, .bl b2, .bl b3, .bl b4, .bl b5, .bl b6, .bl b7, .bl b8, .bl b9, .bl b10, .bl b11]] (0 + 1 + 1) (.lst ([.bl b0, .bl b1, .bl b2, .bl b3, .bl b4, .bl b5, .bl b6, .bl b7, .bl b8, .bl b9, .bl b10, .bl b11] ++ [.bl b12]))) (.cell (C.length + (0 + 1 + 1))) = some ([b0, b1, b2, b3, b4, b5, b6, b7, b8, b9, b10, b11, b12].map D.bl) := lstAt_lst at_app
  have hI : isL (C ++ List.set [Cell.lst [.bl b0, .bl b1, .bl b2, .bl b3], Cell.lst [.bl b0, .bl b1, .bl b2, .bl b3, .bl b4, .bl b5, .bl b6, .bl b7], Cell.lst [.bl b0, .bl b1, .bl b2, .bl b3, .bl b4, .bl b5, .bl b6, .bl b7, .bl b8, .bl b9, .bl b10, .bl b11]] (0 + 1 + 1) (.lst ([.bl b0, .bl b1, .bl b2, .bl b3, .bl b4, .bl b5, .bl b6, .bl b7, .bl b8, .bl b9, .bl b10, .bl b11] ++ [.bl b12]))) (.cell (C.length + (0 + 1 + 1))) = true := w_chkC at_app
  generalize List.set [Cell.lst [D.bl b0, .bl b1, .bl b2, .bl b3], Cell.lst [.bl b0, .bl b1, .bl b2, .bl b3, .bl b4, .bl b5, .bl b6, .bl b7], Cell.lst [.bl b0, .bl b1, .bl b2, .bl b3, .bl b4, .bl b5, .bl b6, .bl b7, .bl b8, .bl b9, .bl b10, .bl b11]] (0 + 1 + 1) (.lst ([.bl b0, .bl b1, .bl b2, .bl b3, .bl b4, .bl b5, .bl b6, .bl b7, .bl b8, .bl b9, .bl b10, .bl b11] ++ [.bl b12])) = Y at hL hI ⊢
  generalize [b0, b1, b2, b3, b4, b5, b6, b7, b8, b9, b10, b11, b12] = bs at hL h1 h3 h4
  repeat' walk_at "ev"
  refine w_addL (by decide) ?_
  repeat' walk_at "ev"
  refine w_countB hL ?_
  rw [h1]
  repeat' walk_at "ev"
  refine w_isOwn hl ?_
  rw [show as.contains (Str.ofString "ValueError") = true from h2]
  repeat' walk_at "ev"
  refine w_indexB hL h4 ?_
  rw [h3]
  repeat' walk_at "ev"
  refine w_ixL (d := .str w) (L2.atI_nat (by
    show (wordL.map D.str)[i]? = some (.str w)
    rw [List.getElem?_map, h5]
    rfl)) ?_
  repeat' walk_at "ev"
  exact fin_closed rfl q
end


/-! things that are what they are: x != x is false -/
def EqO (x : D) (k : Nat) : Prop := ∃ p : PyData, (∀ C, toP C x = some p) ∧ p.canLay0 = true ∧ p.depth ≤ k
theorem EqO.mono {x : D} {k j : Nat} (h : EqO x k) (hk : k ≤ j) : EqO x j := by
  obtain ⟨p, h1, h2, h3⟩ := h
  exact ⟨p, h1, h2, Nat.le_trans h3 hk⟩
theorem EqO.str {y : Str} (h : PyData.strOk y = true := by decide +kernel) : EqO (.str y) 0 := ⟨.str y, fun _ => rfl, h, Nat.le_refl _⟩
theorem EqO.int (i : Int) : EqO (.int i) 0 := ⟨.int i, fun _ => rfl, rfl, Nat.le_refl _⟩
theorem EqO.bl (b : Bool) : EqO (.bl b) 0 := ⟨.bool b, fun _ => rfl, rfl, Nat.le_refl _⟩
theorem EqO.non : EqO .non 0 := ⟨.none, fun _ => rfl, rfl, Nat.le_refl _⟩
theorem eqO_all {k : Nat} : ∀ {xs : List D}, (∀ x ∈ xs, EqO x k) → ∃ ps, (∀ C, toPs C xs = some ps) ∧ PyData.canLayAll0 ps = true ∧ PyData.depthAll ps ≤ k
  | [], _ => ⟨[], fun _ => rfl, rfl, Nat.zero_le _⟩
  | x :: xs, h => by
    obtain ⟨p, h1, h2, h3⟩ := h x List.mem_cons_self
    obtain ⟨ps, g1, g2, g3⟩ := eqO_all fun y hy => h y (List.mem_cons_of_mem x hy)
    refine ⟨p :: ps, fun C => ?_, ?_, Nat.max_le.mpr ⟨h3, g3⟩⟩
    · show (match toP C x, toPs C xs with
        | some p, some ps => some (p :: ps)
        | _, _ => none) = _
      rw [h1 C, g1 C]
    · show (p.canLay0 && PyData.canLayAll0 ps) = true
      rw [h2, g2]
      rfl
theorem EqO.lst {k : Nat} {xs : List D} (h : ∀ x ∈ xs, EqO x k) : EqO (.lst xs) (k + 1) := by
  obtain ⟨ps, h1, h2, h3⟩ := eqO_all h
  exact ⟨.list ps, fun C => by show (toPs C xs).map PyData.list = _; rw [h1]; rfl, h2, Nat.succ_le_succ h3⟩
theorem EqO.tup {k : Nat} {xs : List D} (h : ∀ x ∈ xs, EqO x k) : EqO (.tup xs) (k + 1) := by
  obtain ⟨ps, h1, h2, h3⟩ := eqO_all h
  exact ⟨.tuple ps, fun C => by show (toPs C xs).map PyData.tuple = _; rw [h1]; rfl, h2, Nat.succ_le_succ h3⟩
theorem w_neO {C : Store} {QD : D → Store → Prop} {x y : D} {k : Nat} (h : EqO x k) (e : x = y) (hk : k ≤ 64) (hn : ∀ a, x ≠ .str a) (q : QD (.bl false) C) : W (gNe x y C) QD := by
  subst e
  obtain ⟨p, h1, h2, h3⟩ := h
  have hs : SeqAt.shaped p = true := by
    show (PyData.canLay0 _ && decide (PyData.depth _ ≤ 64)) = true
    rw [h2, decide_eq_true (Nat.le_trans h3 hk)]
    rfl
  refine w_neP (h1 C) (h1 C) hs hs hn ?_
  rw [SeqAt.eqv_refl p h2]
  exact q


/-! what is no stand is refused by all that look at its words -/
section
variable {C : Store} {QD : D → Store → Prop} {P : Exn → Store → Prop} {d b : D} {sl : Sl}
theorem x_mLc {c : Bool} {own : List Nat} {mi : MI} {g : MT} {t : MG Bool} {m : ME} (h : EXp (mi sl C) P) : EXp (mLc c own mi g t m sl C) P := x_bind h
theorem x_mDc {own : List Nat} {mi : MI} {g : MT} {t : MG Bool} {mk mv : ME} (h : EXp (mi sl C) P) : EXp (mDc own mi g t mk mv sl C) P := x_bind h
theorem x_iEn {mas : MG (List D)} (h : EXp (mas sl C) P) : EXp (iEn mas sl C) P := x_bind h
theorem x_iLst {m : ME} (h : EXp (m sl C) P) : EXp (iLst m sl C) P := x_bind h
theorem x_aConsR {m : ME} {ms : MG (List D)} (h : W (m sl C) fun _ C1 => EXp (ms sl C1) P) : EXp (aCons m ms sl C) P := x_bindW (h.imp fun _ _ h => x_bind h)
theorem needstand_x (h : okS d = true) (hb : isStD d = false) (p : P ⟨"NoStand", none⟩ C) : EXp (m_need_stand [d] C) P := by
  unfold m_need_stand
  refine x_runn (by walk_at "sr") (x_if ?_)
  repeat' walk_at "ev"
  refine isst_any h ?_
  rw [hb]
  repeat' walk_at "ev"
  exact x_raise0 p
theorem words_x (h : okS d = true) (hb : isStD d = false) (p : P ⟨"NoStand", none⟩ C) : EXp (m_words [d] C) P := by
  unfold m_words
  refine x_runn (by walk_at "sr") (x_seq1 (x_drop (x_F ?_)))
  repeat' walk_at "ev"
  exact needstand_x h hb p
theorem forgotten_x (h : okS d = true) (hb : isStD d = false) (p : P ⟨"NoStand", none⟩ C) : EXp (m_forgotten [d] C) P := by
  unfold m_forgotten
  refine x_runn (by walk_at "sr") (x_ret (x_mLc (x_iEn (x_aCons (x_fz (x_F ?_))))))
  repeat' walk_at "ev"
  exact words_x h hb p
theorem fewest_x (h : okS d = true) (hb : isStD d = false) (p : P ⟨"NoStand", none⟩ C) : EXp (m_fewest [d] C) P := by
  unfold m_fewest
  refine x_runn (by walk_at "sr") (x_seq1 (x_asg (x_fz (x_F ?_))))
  repeat' walk_at "ev"
  exact words_x h hb p
end


/-! the next deeds, refused -/
section
variable {C : Store} {QD : D → Store → Prop} {P : Exn → Store → Prop} {d b : D} {sl : Sl} {rs ls : List Int} {n : Nat} {x : D} {e : Dd}
theorem ahead_x (h : okS d = true) (hb : isStD d = false) (p : P ⟨"NoStand", none⟩ C) : EXp (m_forgotten_ahead [d] C) P := by
  unfold m_forgotten_ahead
  refine x_runn (by walk_at "sr") (x_ret (x_mDc (x_iLst (x_fz (x_F ?_)))))
  repeat' walk_at "ev"
  exact forgotten_x h hb p
theorem nexts_x (h : okS d = true) (hb : isStD d = false) (p : P ⟨"NoStand", none⟩ C) : EXp (m_nexts [d] C) P := by
  unfold m_nexts
  refine x_runn (by walk_at "sr") (x_seq1 (x_drop (x_F ?_)))
  repeat' walk_at "ev"
  exact fewest_x h hb p
theorem forgetting_x (h : okS d = true) (hb : isStD d = false) (p : P ⟨"NoStand", none⟩ C) : EXp (m_forgetting [d] C) P := by
  unfold m_forgetting
  refine x_runn (by walk_at "sr") (x_seq1 (x_asg (x_F ?_)))
  repeat' walk_at "ev"
  exact ahead_x h hb p
theorem idle_x (h : okS d = true) (hb : isStD d = false) (p : P ⟨"NoStand", none⟩ C) : EXp (m_idle [d] C) P := by
  unfold m_idle
  refine x_runn (by walk_at "sr") (x_seq1 (x_drop (x_F ?_)))
  repeat' walk_at "ev"
  exact forgotten_x h hb p
theorem forgets_x (h : okS d = true) (hb : isStD d = false) (p : P ⟨"NoStand", none⟩ C) : EXp (m_forgets [d, b] C) P := by
  unfold m_forgets
  refine x_runn (by walk_at "sr") (x_ret (x_Fa (x_aConsR ?_)))
  repeat' walk_at "ev"
  refine x_aConsR ?_
  repeat' walk_at "ev"
  refine x_aCons (x_F ?_)
  repeat' walk_at "ev"
  exact ahead_x h hb p
theorem behind_x (v : Vs rs ls) (hn : (n : Int) = rs.length - 1) (ho : okU b = true) (hb : deedB n b = false) (p : P ⟨"NoDeed", some ("at", .int 1)⟩ C) : EXp (m_behind [sD rs ls, .lst [b]] C) P := by
  unfold m_behind
  refine x_runn (by walk_at "sr") (x_seq ?_)
  repeat' walk_at "ev"
  refine need_ok (.f _ _) v ?_
  repeat' walk_at "ev"
  refine ⟨rfl, x_seq1 (x_drop (x_F ?_))⟩
  repeat' walk_at "ev"
  refine dancers_ok (.f _ _) ?_
  repeat' walk_at "ev"
  refine needd_x (n := n) (k := 1) (fun d _ => .inl (by rw [hn])) (by show ([b].all okU && decide ([b].length ≤ 1000)) = true; simp [ho]) ?_ p
  show faultL n [b] 0 = some 1
  unfold faultL
  rw [hb]
  rfl
theorem forgets_deed (v : Vs rs ls) (hn : (n : Int) = rs.length - 1) (ho : okU b = true) (hb : deedB n b = false) (p : ∀ Y, P ⟨"NoDeed", some ("at", .int 1)⟩ (C ++ Y)) : EXp (m_forgets [sD rs ls, b] C) P := by
  unfold m_forgets
  refine x_runn (by walk_at "sr") (x_ret (x_F ?_))
  repeat' walk_at "ev"
  refine ahead_ok v (.f _ _) ?_
  repeat' walk_at "ev"
  unfold m_newly_forgotten
  refine x_runn (by walk_at "sr") (x_ret (x_mLc (x_iLst (x_fz (x_Fa (x_aCons (x_fz (x_F ?_))))))))
  repeat' walk_at "ev"
  exact behind_x v hn ho hb (p _)
theorem w_eqHd {l : List Hd} (hl : ∀ h ∈ l, h.1 = "right" ∨ h.1 = "left") (q : QD (.bl (decide (l = []))) C) : W (gEq (.lst (l.map hD)) (.lst []) C) QD := by
  obtain ⟨p, h1, h2, h3⟩ : EqO (.lst (l.map hD)) 2 := EqO.lst (k := 1) fun y hy => by
    obtain ⟨h, hm, rfl⟩ := List.mem_map.mp hy
    refine EqO.tup (k := 0) fun z hz => ?_
    simp only [List.mem_cons, List.not_mem_nil, or_false] at hz
    rcases hz with rfl | rfl | rfl | rfl
    · rcases hl h hm with e | e
      · rw [e]; exact EqO.str
      · rw [e]; exact EqO.str
    · exact EqO.int _
    · exact EqO.int _
    · exact EqO.int _
  have hs : SeqAt.shaped p = true := by
    show (PyData.canLay0 _ && decide (PyData.depth _ ≤ 64)) = true
    rw [h2, decide_eq_true (Nat.le_trans h3 (by decide))]
    rfl
  refine w_eqP (p := p) (q := .list []) (h1 C) rfl hs rfl (fun a e => by cases e) ?_
  have e := h1 []
  cases l with
  | nil =>
    cases e
    exact q
  | cons h l =>
    have e : (match toP [] (hD h), toPs [] (l.map hD) with
      | some p, some ps => some (p :: ps)
      | _, _ => (none : Option (List PyData))).map PyData.list = some p := e
    split at e
    · cases e
      exact q
    · cases e
theorem ch_side (p : List Int × List Int) (e : Dd) : ∀ h ∈ chOf p e, h.1 = "right" ∨ h.1 = "left" := fun h hm => by
  unfold chOf at hm
  rcases List.mem_append.mp hm with hm | hm
  · split at hm
    · cases hm
    · rw [List.mem_singleton.mp hm]
      exact .inl rfl
  · split at hm
    · cases hm
    · rw [List.mem_singleton.mp hm]
      exact .inr rfl
theorem idle_ex (v : Vs rs ls) (h : n ≤ 1000) (hn : rs.length = n + 1) : W (m_idle [sD rs ls] C) fun _ C1 => ∃ Y, C1 = C ++ Y := by
  have hn1 : (n : Int) = rs.length - 1 := by omega
  unfold m_idle
  repeat' walk_at "ev"
  refine forgotten_ok v (.f _ _) ?_
  repeat' walk_at "ev"
  refine w_fzL ?_
  repeat' walk_at "ev"
  refine alldeeds_ok h hn ⟨_, rfl, rfl, dD_closed _, ?_⟩
  have hal := allD_len n
  repeat' walk_at "ev"
  refine w_lcAf (φ := dD) (p := fun e => decide (chOf (rs, ls) e = [])) (f := dD) (okG_nil _) (fun i e he => ?_) ?_
  · have heo := allD_ok n e (List.mem_of_getElem? he)
    repeat' walk_at "ev"
    refine w_fzL ?_
    repeat' walk_at "ev"
    refine changed_ok (.f _ _) v hn1 heo ?_
    refine ⟨_, rfl, rfl, hD_closed _, ?_⟩
    repeat' walk_at "ev"
    refine w_eqHd (ch_side _ _) ?_
    repeat' walk_at "ev"
    refine ⟨rfl, rfl, fun _ => ?_⟩
    repeat' walk_at "ev"
    exact ⟨rfl, rfl⟩
  refine w_newC ?_
  repeat' walk_at "ev"
  rw [List.append_assoc, List.length_append]
  exact fin_one0 (k := 1) rfl (dD_closed _) ⟨_, rfl⟩
theorem forgetting_ex (v : Vs rs ls) (h : n ≤ 1000) (hn : rs.length = n + 1) : W (m_forgetting [sD rs ls] C) fun _ C1 => ∃ Y, C1 = C ++ Y := by
  have hn1 : (n : Int) = rs.length - 1 := by omega
  unfold m_forgetting
  repeat' walk_at "ev"
  refine ahead_ok v (.f _ _) ?_
  repeat' walk_at "ev"
  refine w_fzL ?_
  repeat' walk_at "ev"
  refine alldeeds_ok h hn ⟨_, rfl, rfl, dD_closed _, ?_⟩
  have hal := allD_len n
  repeat' walk_at "ev"
  refine w_lcAf (φ := dD) (p := fun e => !decide (newLost rs ls e = [])) (f := dD) (okG_nil _) (fun i e he => ?_) ?_
  · have heo := allD_ok n e (List.mem_of_getElem? he)
    repeat' walk_at "ev"
    refine w_fzL ?_
    repeat' walk_at "ev"
    refine newly_ok v (.f _ _) hn1 heo at_app0 ?_
    refine ⟨_, rfl, rfl, closedDs_ints _ _, ?_⟩
    repeat' walk_at "ev"
    refine w_neLI (m := []) ?_
    repeat' walk_at "ev"
    refine ⟨rfl, rfl, fun _ => ?_⟩
    repeat' walk_at "ev"
    exact ⟨rfl, rfl⟩
  refine w_newC ?_
  repeat' walk_at "ev"
  rw [List.append_assoc, List.length_append]
  exact fin_one0 (k := 1) rfl (dD_closed _) ⟨_, rfl⟩
end


/-! things that are no stand, things that are no deed -/
section
variable {C : Store} {QD : D → Store → Prop} {m n : Nat} {rs ls : List Int} {S : Cell}
theorem w_ixM {ds : List D} {i : Int} {P : D → Prop} (hP : ∀ d ∈ ds, P d) (h0 : 0 ≤ i) (h1 : i < ds.length) (q : ∀ d, P d → QD d C) : W (gIx (.lst ds) (.int i) C) QD := by
  obtain ⟨k, rfl⟩ := Int.eq_ofNat_of_zero_le h0
  have hk : k < ds.length := by omega
  exact w_ixL (Nv.atI_nat (List.getElem?_eq_getElem hk)) (q _ (hP _ (List.getElem_mem hk)))
theorem w_tupO {ds : List D} (q : QD (.tup ds) C) : W (on1 gTuple [.lst ds] C) QD := W.of (a := .tup ds) (C := C) rfl q
structure OddS (d : D) : Prop where
  ok : okS d = true
  no : isStD d = false
  cl : closedD 0 d = true
  sh : Sho d 100000 6
structure OddP (n : Nat) (d : D) : Prop where
  ok : okU d = true
  no : deedB n d = false
  cl : closedD 0 d = true
  sh : Sho d 100000 6
/-- a thing in a row of hands -/
structure Th (d : D) : Prop where
  ok : okE d = true
  cl : closedD 0 d = true
  sh : Sho d 2000 3
theorem Th.int {i : Int} (h : -1000 ≤ i ∧ i ≤ 1000) : Th (.int i) := ⟨rfl, rfl, (Sho.int (by omega)).mono (by decide) (by decide)⟩
/-- a row of things -/
structure Rw (L : List D) : Prop where
  th : ∀ d ∈ L, Th d
  len : L.length ≤ 12
theorem Rw.ints {l : List Int} (h : ∀ x ∈ l, -1000 ≤ x ∧ x ≤ 1000) (hl : l.length ≤ 12) : Rw (l.map D.int) := ⟨fun d hd => by
  obtain ⟨x, hx, rfl⟩ := List.mem_map.mp hd
  exact Th.int (h x hx), by rw [List.length_map]; exact hl⟩
theorem th_cl : ∀ {L : List D}, (∀ d ∈ L, Th d) → closedDs 0 L = true
  | [], _ => rfl
  | x :: L, h => by
    show (closedD 0 x && closedDs 0 L) = true
    rw [(h x List.mem_cons_self).cl, th_cl fun d hd => h d (List.mem_cons_of_mem _ hd)]
    rfl
theorem Rw.cl {L : List D} (h : Rw L) : closedDs 0 L = true := th_cl h.th
theorem Rw.rok {L : List D} (h : Rw L) : Tk.okT (.lst L) = true := by
  show (L.all okE && decide (L.length ≤ 1000)) = true
  rw [Bool.and_eq_true]
  exact ⟨List.all_eq_true.mpr fun d hd => (h.th d hd).ok, decide_eq_true (by have := h.len; omega)⟩
theorem Rw.sh {L : List D} (h : Rw L) : Sho (.lst L) 24100 4 := (Sho.lst (w := 2000) (n := 3) fun d hd => (h.th d hd).sh).mono (by have := h.len; omega) (by decide)
theorem Rw.sht {L : List D} (h : Rw L) : Sho (.tup L) 24100 4 := (Sho.tup (w := 2000) (n := 3) fun d hd => (h.th d hd).sh).mono (by have := h.len; omega) (by decide)
/-- things of rows that are no stand -/
theorem OddS.of {L : List D} (hL : ∀ d ∈ L, Tk.okT d = true ∧ closedD 0 d = true ∧ Sho d 24100 4) (hl : L.length ≤ 4) (no : isStD (.tup L) = false) : OddS (.tup L) := by
  refine ⟨?_, no, ?_, ?_⟩
  · show (L.all Tk.okT && decide (L.length ≤ 1000)) = true
    rw [Bool.and_eq_true]
    exact ⟨List.all_eq_true.mpr fun d hd => (hL d hd).1, decide_eq_true (by omega)⟩
  · show closedDs 0 L = true
    have cl : ∀ {L : List D}, (∀ d ∈ L, closedD 0 d = true) → closedDs 0 L = true := by
      intro L
      induction L with
      | nil => intro _; rfl
      | cons x L ih =>
        intro h
        show (closedD 0 x && closedDs 0 L) = true
        rw [h x List.mem_cons_self, ih fun d hd => h d (List.mem_cons_of_mem _ hd)]
        rfl
    exact cl fun d hd => (hL d hd).2.1
  · exact (Sho.tup (w := 24100) (n := 4) fun d hd => (hL d hd).2.2).mono (by
      have := Nat.mul_le_mul_left (24100 + 1) hl
      omega) (by decide)
theorem OddS.two {A B : List D} (ha : Rw A) (hb : Rw B) (no : isStD (.tup [.lst A, .lst B]) = false) : OddS (.tup [.lst A, .lst B]) := OddS.of (fun d hd => by
  simp only [List.mem_cons, List.not_mem_nil, or_false] at hd
  rcases hd with rfl | rfl
  · exact ⟨ha.rok, ha.cl, ha.sh⟩
  · exact ⟨hb.rok, hb.cl, hb.sh⟩) (by show (2 : Nat) ≤ 4; decide) no
theorem isSt_len {A B : List D} (h : B.length ≠ A.length) : isStD (.tup [.lst A, .lst B]) = false := by
  show (decide (2 ≤ A.length) && decide (B.length = A.length) && lowsD A A.length && topsD B A.length) = false
  rw [decide_eq_false h, Bool.and_false]
  rfl
theorem isSt_low {A B : List D} {i : Nat} (hi : i < A.length) (h : betD (A.getD i .non) ((i : Int) + 1) A.length = false) : isStD (.tup [.lst A, .lst B]) = false := by
  have e : lowsD A A.length = false := by
    unfold lowsD
    exact List.all_eq_false.mpr ⟨_, List.mem_map_of_mem (List.mem_range.mpr hi), by
      show ¬ id (betD (A.getD i .non) ((i : Int) + 1) A.length) = true
      rw [h]
      decide⟩
  show (decide (2 ≤ A.length) && decide (B.length = A.length) && lowsD A A.length && topsD B A.length) = false
  rw [e, Bool.and_false]
  rfl
theorem isSt_top {A B : List D} {i : Nat} (hi : i < A.length) (h : betD (B.getD i .non) 0 i = false) : isStD (.tup [.lst A, .lst B]) = false := by
  have e : topsD B A.length = false := by
    unfold topsD
    exact List.all_eq_false.mpr ⟨_, List.mem_map_of_mem (List.mem_range.mpr hi), by
      show ¬ id (betD (B.getD i .non) 0 i) = true
      rw [h]
      decide⟩
  show (decide (2 ≤ A.length) && decide (B.length = A.length) && lowsD A A.length && topsD B A.length) = false
  rw [e, Bool.and_false]
theorem getD_mid {A B : List D} {x : D} : (A ++ [x] ++ B).getD A.length .non = x := by
  rw [List.getD_eq_getElem?_getD, List.append_assoc, List.getElem?_append_right (Nat.le_refl _), Nat.sub_self]
  rfl
/-- a row with another thing at a place -/
theorem Rw.put {l : List Int} {k : Nat} {x : D} (h : ∀ y ∈ l, -1000 ≤ y ∧ y ≤ 1000) (hl : l.length ≤ 11) (hx : Th x) : Rw ((l.take k).map D.int ++ [x] ++ (l.drop (k + 1)).map D.int) := by
  refine ⟨fun d hd => ?_, by simp; omega⟩
  rcases List.mem_append.mp hd with hd | hd
  · rcases List.mem_append.mp hd with hd | hd
    · obtain ⟨y, hy, rfl⟩ := List.mem_map.mp hd
      exact Th.int (h y (List.mem_of_mem_take hy))
    · rw [List.mem_singleton.mp hd]
      exact hx
  · obtain ⟨y, hy, rfl⟩ := List.mem_map.mp hd
    exact Th.int (h y (List.mem_of_mem_drop hy))
theorem rput_len {l : List Int} {k : Nat} {x : D} (hk : k < l.length) : ((l.take k).map D.int ++ [x] ++ (l.drop (k + 1)).map D.int).length = l.length := by
  simp
  omega
theorem rput_at {l : List Int} {k : Nat} {x : D} (hk : k < l.length) : ((l.take k).map D.int ++ [x] ++ (l.drop (k + 1)).map D.int).getD k .non = x := by
  have e : ((l.take k).map D.int).length = k := by rw [List.length_map, List.length_take]; omega
  conv => lhs; arg 2; rw [← e]
  exact getD_mid
theorem nodeed_ok (hm : m ≤ 900000) (hS : Jd m S) (n0 : 1 ≤ n) (n1 : n ≤ 6) (q : ∀ S' d, Jd (m + 1) S' → OddP n d → QD d [S']) : W (m__law_no_deed [.cell 0, .int n] [S]) QD := by
  unfold m__law_no_deed
  repeat' walk_at "ev"
  refine w_demp ?_
  repeat' walk_at "ev"
  refine w_addL (by show (18 : Nat) ≤ sizeLine; decide) ?_
  repeat' walk_at "ev"
  refine dip_c0 (by omega) hS (by show (0 : Int) < (18 : Nat); decide) (by show ((18 : Nat) : Int) ≤ _; decide) fun r S1 r0 r1 hS1 => ?_
  refine w_ixM (P := OddP n) (fun d hd => ?_) r0 r1 fun d hd => ?_
  · have one : Sho (.int 1) 2000 3 := (Sho.int (by decide)).mono (by decide) (by decide)
    have st : ∀ {y : Str}, y.cps.size ≤ 100 → (y.cps.toList.all fun c => decide (c < 16 ^ 8)) = true → Sho (.str y) 2000 3 := fun h1 h2 => (Sho.str h1 h2).mono (by decide) (by decide)
    have tp : ∀ {L : List D}, (∀ d ∈ L, Sho d 2000 3) → L.length ≤ 4 → Sho (.tup L) 100000 6 := fun {L} h hl => (Sho.tup (w := 2000) (n := 3) h).mono (by have := Nat.mul_le_mul_left (2000 + 1) hl; omega) (by decide)
    have g1 : Sho (.str "go") 2000 3 := st (by decide +kernel) (by decide +kernel)
    have g2 : Sho (.str "come") 2000 3 := st (by decide +kernel) (by decide +kernel)
    have g3 : Sho (.str "Go") 2000 3 := st (by decide +kernel) (by decide +kernel)
    have g4 : Sho (.str "") 2000 3 := st (by decide +kernel) (by decide +kernel)
    have g5 : Sho (.str "1") 2000 3 := st (by decide +kernel) (by decide +kernel)
    have g6 : Sho .non 2000 3 := Sho.non.mono (by decide) (by decide)
    have in_ : ∀ {i : Int}, -1000 ≤ i ∧ i ≤ 1000 → Sho (.int i) 2000 3 := fun h => (Sho.int (by omega)).mono (by decide) (by decide)
    simp only [List.cons_append, List.nil_append, List.mem_cons, List.not_mem_nil, or_false] at hd
    have far : ∀ {i : Int}, ¬ (1 ≤ i ∧ i ≤ (n : Int)) → ∀ w : Str, deedB n (.tup [.str w, .int i]) = false := fun {i} h w => by
      show ((decide (w = "go") || decide (w = "come")) && decide (1 ≤ i ∧ i ≤ (n : Int))) = false
      rw [decide_eq_false h, Bool.and_false]
    have wrong : ∀ {w : Str}, w ≠ "go" → w ≠ "come" → ∀ i : Int, deedB n (.tup [.str w, .int i]) = false := fun {w} h1 h2 i => by
      show ((decide (w = "go") || decide (w = "come")) && decide (1 ≤ i ∧ i ≤ (n : Int))) = false
      rw [decide_eq_false h1, decide_eq_false h2]
      rfl
    rcases hd with rfl | rfl | rfl | rfl | rfl | rfl | rfl | rfl | rfl | rfl | rfl | rfl | rfl | rfl | rfl | rfl | rfl | rfl
    · exact ⟨rfl, rfl, rfl, g6.mono (by decide) (by decide)⟩
    · exact ⟨rfl, rfl, rfl, one.mono (by decide) (by decide)⟩
    · exact ⟨rfl, rfl, rfl, (Sho.str (y := "go 1")).mono (by decide) (by decide)⟩
    · exact ⟨rfl, rfl, rfl, tp (fun d hd => by rw [List.mem_singleton.mp hd]; exact g1) (by show (1 : Nat) ≤ 4; decide)⟩
    · exact ⟨rfl, rfl, rfl, (Sho.lst (w := 2000) (n := 3) fun d hd => by simp only [List.mem_cons, List.not_mem_nil, or_false] at hd; rcases hd with rfl | rfl; exact g1; exact one).mono (by decide) (by decide)⟩
    · exact ⟨rfl, far (by omega) _, rfl, tp (fun d hd => by simp only [List.mem_cons, List.not_mem_nil, or_false] at hd; rcases hd with rfl | rfl; exact g1; exact in_ (by omega)) (by show (2 : Nat) ≤ 4; decide)⟩
    · exact ⟨rfl, far (by omega) _, rfl, tp (fun d hd => by simp only [List.mem_cons, List.not_mem_nil, or_false] at hd; rcases hd with rfl | rfl; exact g1; exact in_ (by omega)) (by show (2 : Nat) ≤ 4; decide)⟩
    · exact ⟨rfl, far (by omega) _, rfl, tp (fun d hd => by simp only [List.mem_cons, List.not_mem_nil, or_false] at hd; rcases hd with rfl | rfl; exact g2; exact in_ (by omega)) (by show (2 : Nat) ≤ 4; decide)⟩
    · exact ⟨rfl, rfl, rfl, tp (fun d hd => by simp only [List.mem_cons, List.not_mem_nil, or_false] at hd; rcases hd with rfl | rfl; exact g1; exact ((Sho.bl true).mono (by decide) (by decide))) (by show (2 : Nat) ≤ 4; decide)⟩
    · exact ⟨rfl, wrong (by decide +kernel) (by decide +kernel) _, rfl, tp (fun d hd => by simp only [List.mem_cons, List.not_mem_nil, or_false] at hd; rcases hd with rfl | rfl; exact g3; exact one) (by show (2 : Nat) ≤ 4; decide)⟩
    · exact ⟨rfl, rfl, rfl, tp (fun d hd => by simp only [List.mem_cons, List.not_mem_nil, or_false] at hd; rcases hd with rfl | rfl; exact g1; exact g5) (by show (2 : Nat) ≤ 4; decide)⟩
    · exact ⟨rfl, rfl, rfl, tp (fun d hd => by simp only [List.mem_cons, List.not_mem_nil, or_false] at hd; rcases hd with rfl | rfl | rfl; exact g1; exact one; exact one) (by show (3 : Nat) ≤ 4; decide)⟩
    · exact ⟨rfl, rfl, rfl, tp (fun d hd => by simp only [List.mem_cons, List.not_mem_nil, or_false] at hd; rcases hd with rfl | rfl; exact one; exact g1) (by show (2 : Nat) ≤ 4; decide)⟩
    · exact ⟨rfl, wrong (by decide +kernel) (by decide +kernel) _, rfl, tp (fun d hd => by simp only [List.mem_cons, List.not_mem_nil, or_false] at hd; rcases hd with rfl | rfl; exact g4; exact one) (by show (2 : Nat) ≤ 4; decide)⟩
    · exact ⟨rfl, rfl, rfl, tp (fun d hd => by simp only [List.mem_cons, List.not_mem_nil, or_false] at hd; rcases hd with rfl | rfl; exact g6; exact one) (by show (2 : Nat) ≤ 4; decide)⟩
    · exact ⟨rfl, rfl, rfl, tp (fun d hd => by simp only [List.mem_cons, List.not_mem_nil, or_false] at hd; rcases hd with rfl | rfl; exact g2; exact g6) (by show (2 : Nat) ≤ 4; decide)⟩
    · exact ⟨rfl, rfl, rfl, Sho.edct.mono (by decide) (by decide)⟩
    · exact ⟨rfl, rfl, rfl, tp (fun d hd => by simp only [List.mem_cons, List.not_mem_nil, or_false] at hd; rcases hd with rfl | rfl; exact ((Sho.lst (w := 100) (n := 0) fun d hd => by rw [List.mem_singleton.mp hd]; exact Sho.str).mono (by decide) (by decide)); exact one) (by show (2 : Nat) ≤ 4; decide)⟩
  repeat' walk_at "ev"
  exact fin_closed10 rfl (ClS.one (hS1.closed 0)) hd.cl (q _ _ hS1 hd)
end


section
variable {C : Store} {QD : D → Store → Prop} {m n : Nat} {rs ls : List Int} {S : Cell}
theorem w_listT {ds : List D} (q : QD (.lst ds) C) : W (on1 (gList false) [.tup ds] C) QD := W.of (a := .lst ds) (C := C) rfl q
theorem nostand_ok (hm : m ≤ 900000) (hS : Jd m S) (v : Vs rs ls) (hl : rs.length = n + 1) (n0 : 1 ≤ n) (n1 : n ≤ 6) (q : ∀ S' d, Jd (m + 2) S' → OddS d → QD d [S']) : W (m__law_no_stand [.cell 0, sD rs ls, .int n] [S]) QD := by
  have vl := v.len
  have hr : ∀ y ∈ rs, -1000 ≤ y ∧ y ≤ 1000 := fun y hy => by
    obtain ⟨i, hi⟩ := List.mem_iff_getElem?.mp hy
    have := v.r i y hi
    omega
  have hL : ∀ y ∈ ls, -1000 ≤ y ∧ y ≤ 1000 := fun y hy => by
    obtain ⟨i, hi⟩ := List.mem_iff_getElem?.mp hy
    have := v.l i y hi
    have := (List.getElem?_eq_some_iff.mp hi).1
    omega
  have rR : Rw (rs.map D.int) := Rw.ints hr (by omega)
  have rL : Rw (ls.map D.int) := Rw.ints hL (by omega)
  have zero : Rw [.int 0] := ⟨fun d hd => by rw [List.mem_singleton.mp hd]; exact Th.int (by omega), by decide⟩
  unfold m__law_no_stand
  repeat' walk_at "ev"
  refine dip_c0 (by omega) hS (by omega) (by omega) fun at_ S1 a0 a1 hS1 => ?_
  obtain ⟨k, rfl⟩ := Int.eq_ofNat_of_zero_le a0
  have hk : k < rs.length := by omega
  have hk2 : k < ls.length := by omega
  repeat' walk_at "ev"
  refine w_listT ?_
  repeat' walk_at "ev"
  refine w_tupO ?_
  repeat' walk_at "ev"
  refine w_tupO ?_
  repeat' walk_at "ev"
  have r3 : ∀ d ∈ [D.lst (rs.map D.int)], Tk.okT d = true ∧ closedD 0 d = true ∧ Sho d 24100 4 := fun d hd => by rw [List.mem_singleton.mp hd]; exact ⟨rR.rok, rR.cl, rR.sh⟩
  have nl : Rw [] := ⟨(fun d hd => by cases hd), by decide⟩
  have h1 : ∀ d ∈ ([.non, .int 0, .str "1 2", .lst [.lst (rs.map D.int), .lst (ls.map D.int)], .tup [.lst (rs.map D.int)], .tup [.lst (rs.map D.int), .lst (ls.map D.int), .lst []], .tup [.tup (rs.map D.int), .lst (ls.map D.int)], .tup [.lst (rs.map D.int), .tup (ls.map D.int)]] : List D), OddS d := fun d hd => by
    simp only [List.mem_cons, List.not_mem_nil, or_false] at hd
    rcases hd with rfl | rfl | rfl | rfl | rfl | rfl | rfl | rfl
    · exact ⟨rfl, rfl, rfl, Sho.non.mono (by decide) (by decide)⟩
    · exact ⟨rfl, rfl, rfl, (Sho.int (by decide)).mono (by decide) (by decide)⟩
    · exact ⟨rfl, rfl, rfl, (Sho.str (y := "1 2")).mono (by decide) (by decide)⟩
    · refine ⟨rfl, rfl, ?_, (Sho.lst (w := 24100) (n := 4) fun d hd => ?_).mono (by show (24100 + 1) * 2 ≤ 100000; decide) (by decide)⟩
      · show (closedDs 0 (rs.map D.int) && (closedDs 0 (ls.map D.int) && true)) = true
        rw [rR.cl, rL.cl]
        rfl
      · simp only [List.mem_cons, List.not_mem_nil, or_false] at hd
        rcases hd with rfl | rfl
        · exact rR.sh
        · exact rL.sh
    · exact OddS.of r3 (by show (1 : Nat) ≤ 4; decide) rfl
    · refine OddS.of (fun d hd => ?_) (by show (3 : Nat) ≤ 4; decide) rfl
      simp only [List.mem_cons, List.not_mem_nil, or_false] at hd
      rcases hd with rfl | rfl | rfl
      · exact ⟨rR.rok, rR.cl, rR.sh⟩
      · exact ⟨rL.rok, rL.cl, rL.sh⟩
      · exact ⟨nl.rok, nl.cl, nl.sh⟩
    · refine OddS.of (fun d hd => ?_) (by show (2 : Nat) ≤ 4; decide) rfl
      simp only [List.mem_cons, List.not_mem_nil, or_false] at hd
      rcases hd with rfl | rfl
      · exact ⟨rfl, rR.cl, rR.sht⟩
      · exact ⟨rL.rok, rL.cl, rL.sh⟩
    · refine OddS.of (fun d hd => ?_) (by show (2 : Nat) ≤ 4; decide) rfl
      simp only [List.mem_cons, List.not_mem_nil, or_false] at hd
      rcases hd with rfl | rfl
      · exact ⟨rR.rok, rR.cl, rR.sh⟩
      · exact ⟨rfl, rL.cl, rL.sht⟩
  rw [show ([.non, .int 0, .str (Str.ofString "1 2"), .lst [.lst (rs.map D.int), .lst (ls.map D.int)], .tup [.lst (rs.map D.int)], .tup [.lst (rs.map D.int), .lst (ls.map D.int), .lst []], .tup [.tup (rs.map D.int), .lst (ls.map D.int)], .tup [.lst (rs.map D.int), .tup (ls.map D.int)]] : List D) = [.non, .int 0, .str "1 2", .lst [.lst (rs.map D.int), .lst (ls.map D.int)], .tup [.lst (rs.map D.int)], .tup [.lst (rs.map D.int), .lst (ls.map D.int), .lst []], .tup [.tup (rs.map D.int), .lst (ls.map D.int)], .tup [.lst (rs.map D.int), .tup (ls.map D.int)]] from rfl]
  have hl1 : ([.non, .int 0, .str "1 2", .lst [.lst (rs.map D.int), .lst (ls.map D.int)], .tup [.lst (rs.map D.int)], .tup [.lst (rs.map D.int), .lst (ls.map D.int), .lst []], .tup [.tup (rs.map D.int), .lst (ls.map D.int)], .tup [.lst (rs.map D.int), .tup (ls.map D.int)]] : List D).length = 8 := rfl
  generalize ([.non, .int 0, .str "1 2", .lst [.lst (rs.map D.int), .lst (ls.map D.int)], .tup [.lst (rs.map D.int)], .tup [.lst (rs.map D.int), .lst (ls.map D.int), .lst []], .tup [.tup (rs.map D.int), .lst (ls.map D.int)], .tup [.lst (rs.map D.int), .tup (ls.map D.int)]] : List D) = L1 at h1 hl1 ⊢
  repeat' walk_at "ev"
  refine w_slL ?_
  rw [cut_drop D.int rs 1 (by decide), show (1 : Int).toNat = 1 from rfl]
  repeat' walk_at "ev"
  refine w_addL (Nat.le_trans (m := 1000) (by simp; omega) (by decide)) ?_
  repeat' walk_at "ev"
  refine w_addL (Nat.le_trans (m := 1000) (by simp; omega) (by decide)) ?_
  repeat' walk_at "ev"
  refine w_addL (Nat.le_trans (m := 1000) (by simp; omega) (by decide)) ?_
  repeat' walk_at "ev"
  refine w_addX (.c _ _ rfl) (.f _) (by rw [hl1]; show (13 : Nat) ≤ sizeLine; decide) ?_
  refine w_newC ?_
  have h2 : ∀ d ∈ L1 ++ [.tup [.lst ((rs.drop 1).map D.int), .lst (ls.map D.int)], .tup [.lst (rs.map D.int), .lst (ls.map D.int ++ [.int 0])], .tup [.lst (rs.map D.int ++ [.int ((n : Int) + 1)]), .lst (ls.map D.int ++ [.int 0])], .tup [.lst [], .lst []], .tup [.lst [.int 1], .lst [.int 0]]], OddS d := fun d hd => by
    have rl0 : Rw (ls.map D.int ++ [.int 0]) := ⟨fun d hd => by
      rcases List.mem_append.mp hd with hd | hd
      · exact rL.th d hd
      · exact zero.th d hd, by simp; omega⟩
    rcases List.mem_append.mp hd with hd | hd
    · exact h1 d hd
    simp only [List.mem_cons, List.not_mem_nil, or_false] at hd
    rcases hd with rfl | rfl | rfl | rfl | rfl
    · exact OddS.two (Rw.ints (fun y hy => hr y (List.mem_of_mem_drop hy)) (by rw [List.length_drop]; omega)) rL (isSt_len (by simp; omega))
    · exact OddS.two rR rl0 (isSt_len (by simp; omega))
    · refine OddS.two ⟨fun d hd => ?_, by simp; omega⟩ rl0 (isSt_low (i := rs.length) (by simp) ?_)
      · rcases List.mem_append.mp hd with hd | hd
        · exact rR.th d hd
        · rw [List.mem_singleton.mp hd]
          exact Th.int (by omega)
      · have e : (rs.map D.int ++ [D.int ((n : Int) + 1)]).getD rs.length .non = .int ((n : Int) + 1) := by
          have := getD_mid (A := rs.map D.int) (x := D.int ((n : Int) + 1)) (B := [])
          rwa [List.append_nil, List.length_map] at this
        rw [e]
        exact decide_eq_false (by omega)
    · exact OddS.two nl nl rfl
    · exact OddS.two ⟨fun d hd => by rw [List.mem_singleton.mp hd]; exact Th.int (by omega), by decide⟩ zero rfl
  have hl2 : (L1 ++ [D.tup [.lst ((rs.drop 1).map D.int), .lst (ls.map D.int)], .tup [.lst (rs.map D.int), .lst (ls.map D.int ++ [.int 0])], .tup [.lst (rs.map D.int ++ [.int ((n : Int) + 1)]), .lst (ls.map D.int ++ [.int 0])], .tup [.lst [], .lst []], .tup [.lst [.int 1], .lst [.int 0]]]).length = 13 := by rw [List.length_append, hl1]; rfl
  generalize L1 ++ [D.tup [.lst ((rs.drop 1).map D.int), .lst (ls.map D.int)], .tup [.lst (rs.map D.int), .lst (ls.map D.int ++ [.int 0])], .tup [.lst (rs.map D.int ++ [.int ((n : Int) + 1)]), .lst (ls.map D.int ++ [.int 0])], .tup [.lst [], .lst []], .tup [.lst [.int 1], .lst [.int 0]]] = L2 at h2 hl2 ⊢
  repeat' walk_at "ev"
  rw [show [S1] ++ [Cell.lst L1] ++ [Cell.lst L2] = [S1, .lst L1, .lst L2] from rfl]
  refine w_forM (fun i sl C => ∃ (L : List D) (x7 : Option D), sl = [some (.cell 0), some (sD rs ls), some (.int n), some (.lst (rs.map D.int)), some (.lst (ls.map D.int)), some (.int (k : Nat)), some (.cell 2), x7] ∧ C = [S1, .lst L1, .lst L] ∧ (∀ d ∈ L, OddS d) ∧ L.length = 13 + i) (fun _ _ _ _ => okG_nil _) ?_ ?_ ⟨L2, none, rfl, rfl, h2, hl2⟩
  · intro i d sl C hd hi
    obtain ⟨L, x7, rfl, rfl, hL2, hLl⟩ := hi
    have hi6 : i < 6 := (List.getElem?_eq_some_iff.mp hd).1
    have hdm := List.mem_of_getElem? hd
    obtain ⟨th, hb⟩ : Th d ∧ betD d ((k : Int) + 1) (rs.length : Nat) = false := by
      simp only [List.mem_cons, List.not_mem_nil, or_false] at hdm
      rcases hdm with rfl | rfl | rfl | rfl | rfl | rfl
      · exact ⟨Th.int (by omega), decide_eq_false (by omega)⟩
      · exact ⟨Th.int (by omega), decide_eq_false (by omega)⟩
      · exact ⟨⟨rfl, rfl, (Sho.bl _).mono (by decide) (by decide)⟩, rfl⟩
      · exact ⟨⟨rfl, rfl, Sho.non.mono (by decide) (by decide)⟩, rfl⟩
      · exact ⟨⟨rfl, rfl, (Sho.str (y := "1")).mono (by decide) (by decide)⟩, rfl⟩
      · exact ⟨Th.int (i := -1) (by omega), show decide ((k : Int) + 1 ≤ -1 ∧ (-1 : Int) ≤ (rs.length : Nat)) = false from decide_eq_false (by omega)⟩
    have hisL : isL [S1, .lst L1, .lst L] (.cell 2) = true := rfl
    repeat' walk_at "ev"
    refine w_slL ?_
    rw [cut_take D.int rs (k : Int) (by omega), show ((k : Nat) : Int).toNat = k from by omega]
    repeat' walk_at "ev"
    refine w_addL (Nat.le_trans (m := 1000) (by simp; omega) (by decide)) ?_
    repeat' walk_at "ev"
    refine w_slL ?_
    rw [cut_drop D.int rs ((k : Int) + 1) (by omega), show (((k : Nat) : Int) + 1).toNat = k + 1 from by omega]
    repeat' walk_at "ev"
    refine w_addL (Nat.le_trans (m := 1000) (by simp; omega) (by decide)) ?_
    repeat' walk_at "ev"
    refine w_append (ds := L) rfl (by rw [hLl, sizeLine_eq]; omega) ?_
    repeat' walk_at "ev"
    refine ⟨_, _, rfl, rfl, fun e he => ?_, by rw [List.length_append, hLl]; show 13 + i + 1 = _; omega⟩
    rcases List.mem_append.mp he with he | he
    · exact hL2 e he
    · rw [List.mem_singleton.mp he]
      exact OddS.two (Rw.put hr (by omega) th) rL (isSt_low (i := k) (by rw [rput_len hk]; exact hk) (by rw [rput_at hk, rput_len hk]; exact hb))
  · intro sl C hi
    obtain ⟨L3, x7, rfl, rfl, h3, hl3⟩ := hi
    repeat' walk_at "ev"
    refine w_forM (fun i sl C => ∃ (L : List D) (x7 : Option D), sl = [some (.cell 0), some (sD rs ls), some (.int n), some (.lst (rs.map D.int)), some (.lst (ls.map D.int)), some (.int (k : Nat)), some (.cell 2), x7] ∧ C = [S1, .lst L1, .lst L] ∧ (∀ d ∈ L, OddS d) ∧ L.length = 19 + i) (fun _ _ _ _ => okG_nil _) ?_ ?_ ⟨L3, x7, rfl, rfl, h3, hl3⟩
    · intro i d sl C hd hi
      obtain ⟨L, x7, rfl, rfl, hL2, hLl⟩ := hi
      have hi6 : i < 6 := (List.getElem?_eq_some_iff.mp hd).1
      have hdm := List.mem_of_getElem? hd
      obtain ⟨th, hb⟩ : Th d ∧ betD d 0 (k : Nat) = false := by
        simp only [List.mem_cons, List.not_mem_nil, or_false] at hdm
        rcases hdm with rfl | rfl | rfl | rfl | rfl | rfl
        · exact ⟨Th.int (by omega), decide_eq_false (by omega)⟩
        · exact ⟨Th.int (i := -1) (by omega), show decide ((0 : Int) ≤ -1 ∧ (-1 : Int) ≤ (k : Nat)) = false from decide_eq_false (by omega)⟩
        · exact ⟨⟨rfl, rfl, (Sho.bl _).mono (by decide) (by decide)⟩, rfl⟩
        · exact ⟨⟨rfl, rfl, Sho.non.mono (by decide) (by decide)⟩, rfl⟩
        · exact ⟨⟨rfl, rfl, (Sho.str (y := "0")).mono (by decide) (by decide)⟩, rfl⟩
        · exact ⟨⟨rfl, rfl, (Sho.lst (w := 108) (n := 0) fun d hd => by rw [List.mem_singleton.mp hd]; exact Sho.int (by decide)).mono (by decide) (by decide)⟩, rfl⟩
      have hisL : isL [S1, .lst L1, .lst L] (.cell 2) = true := rfl
      repeat' walk_at "ev"
      refine w_slL ?_
      rw [cut_take D.int ls (k : Int) (by omega), show ((k : Nat) : Int).toNat = k from by omega]
      repeat' walk_at "ev"
      refine w_addL (Nat.le_trans (m := 1000) (by simp; omega) (by decide)) ?_
      repeat' walk_at "ev"
      refine w_slL ?_
      rw [cut_drop D.int ls ((k : Int) + 1) (by omega), show (((k : Nat) : Int) + 1).toNat = k + 1 from by omega]
      repeat' walk_at "ev"
      refine w_addL (Nat.le_trans (m := 1000) (by simp; omega) (by decide)) ?_
      repeat' walk_at "ev"
      refine w_append (ds := L) rfl (by rw [hLl, sizeLine_eq]; omega) ?_
      repeat' walk_at "ev"
      refine ⟨_, _, rfl, rfl, fun e he => ?_, by rw [List.length_append, hLl]; show 19 + i + 1 = _; omega⟩
      rcases List.mem_append.mp he with he | he
      · exact hL2 e he
      · rw [List.mem_singleton.mp he]
        exact OddS.two rR (Rw.put hL (by omega) th) (isSt_top (i := k) (by rw [List.length_map]; exact hk) (by rw [rput_at hk2]; exact hb))
    · intro sl C hi
      obtain ⟨L4, x7, rfl, rfl, h4, hl4⟩ := hi
      have hl4 : L4.length = 25 := hl4
      repeat' walk_at "ev"
      refine dip_c0 (by omega) hS1 (by rw [hl4]; decide) (by rw [hl4]; decide) fun r S2 r0 r1 hS2 => ?_
      obtain ⟨j, rfl⟩ := Int.eq_ofNat_of_zero_le r0
      rw [hl4] at r1
      have hj : j < L4.length := by omega
      refine w_ixC (ds := L4) (d := L4[j]) rfl (Nv.atI_nat (List.getElem?_eq_getElem hj)) ?_
      have ho := h4 _ (List.getElem_mem hj)
      exact fin_closed1 (C1 := [S2]) rfl (ClS.one (hS2.closed 0)) ho.cl (q _ _ hS2 ho)
end


/-! each door asked -/
section
variable {C : Store} {QD : D → Store → Prop} {P : Exn → Store → Prop} {n j : Nat} {rs ls : List Int} {a b r : D}
theorem x_door {k : Nat} {mfs : List MF} {mi : ME} {mas : MG (List D)} {sl : Sl} (hl : mfs.length ≤ sizeLine) (h : W (mi sl C) fun d C1 => ∃ (j : Nat) (mf : MF), d = .int (j : Nat) ∧ mfs[j]? = some mf ∧ EXp (mF k mf mas sl C1) P) : EXp (mDoor k mfs mi mas sl C) P := by
  unfold mDoor
  rw [if_pos hl]
  refine x_bindW (h.imp fun d C1 h => ?_)
  obtain ⟨j, mf, rfl, hm, h⟩ := h
  simp only
  rw [if_pos (by omega), show ((j : Nat) : Int).toNat = j from by omega, hm]
  exact h
noncomputable abbrev doorsL : List MF := [m_nexts, m_forgetting, m_idle]
noncomputable abbrev askB : MS := (sIf (mT (m2 gLt (mVar 0) (mC (.int 3)))) (sDrop (mDoor 1 [m_nexts, m_forgetting, m_idle] (mVar 0) (aCons (mVar 1) aNil))) (sDrop (mF 2 m_forgets (aCons (mVar 1) (aCons (mVar 2) aNil)))))
abbrev askS (j : Nat) (a b : D) : Sl := [some (.int (j : Nat)), some a, some b, some (.str "none"), none]
def doorX (j : Nat) (a b : D) (C : Store) (P : Exn → Store → Prop) : Prop := match j with
  | 0 => EXp (m_nexts [a] C) P
  | 1 => EXp (m_forgetting [a] C) P
  | 2 => EXp (m_idle [a] C) P
  | _ => EXp (m_forgets [a, b] C) P
def doorN (j : Nat) (a b : D) (C : Store) : Prop := match j with
  | 0 => W (m_nexts [a] C) fun _ C1 => ∃ Y, C1 = C ++ Y
  | 1 => W (m_forgetting [a] C) fun _ C1 => ∃ Y, C1 = C ++ Y
  | 2 => W (m_idle [a] C) fun _ C1 => ∃ Y, C1 = C ++ Y
  | _ => W (m_forgets [a, b] C) fun _ C1 => ∃ Y, C1 = C ++ Y
theorem askB_x (hj : j ≤ 3) (h : doorX j a b C P) : EXp (askB (askS j a b) C) P := by
  have dr : ∀ {i : Nat} {mf : MF}, i < 3 → doorsL[i]? = some mf → EXp (mf [a] C) P → EXp (askB (askS i a b) C) P := fun {i mf} hi hm h => by
    refine x_if ?_
    repeat' walk_at "ev"
    refine ite_t (decide_eq_true (by omega)) ?_
    refine x_drop (x_door (by decide) ?_)
    repeat' walk_at "ev"
    refine ⟨i, mf, rfl, hm, x_F ?_⟩
    repeat' walk_at "ev"
    exact h
  rcases (show j = 0 ∨ j = 1 ∨ j = 2 ∨ j = 3 by omega) with rfl | rfl | rfl | rfl
  · exact dr (by decide) rfl h
  · exact dr (by decide) rfl h
  · exact dr (by decide) rfl h
  · refine x_if ?_
    repeat' walk_at "ev"
    refine x_drop (x_F ?_)
    repeat' walk_at "ev"
    exact h
theorem askB_n (hj : j ≤ 3) (h : doorN j a b C) : WS (askB (askS j a b) C) fun f sl C1 => f = .nx ∧ sl = askS j a b ∧ ∃ Y, C1 = C ++ Y := by
  have dr : ∀ {i : Nat} {mf : MF}, i < 3 → doorsL[i]? = some mf → (W (mf [a] C) fun _ C1 => ∃ Y, C1 = C ++ Y) → WS (askB (askS i a b) C) fun f sl C1 => f = .nx ∧ sl = askS i a b ∧ ∃ Y, C1 = C ++ Y := fun {i mf} hi hm h => by
    repeat' walk_at "ev"
    refine ite_t (decide_eq_true (by omega)) ?_
    repeat' walk_at "ev"
    refine w_door (by decide) ?_
    repeat' walk_at "ev"
    refine ⟨i, mf, rfl, hm, ?_⟩
    repeat' walk_at "ev"
    refine h.imp fun _ C1 h => ?_
    obtain ⟨Y, rfl⟩ := h
    repeat' walk_at "ev"
    exact ⟨rfl, rfl, Y, rfl⟩
  rcases (show j = 0 ∨ j = 1 ∨ j = 2 ∨ j = 3 by omega) with rfl | rfl | rfl | rfl
  · exact dr (by decide) rfl h
  · exact dr (by decide) rfl h
  · exact dr (by decide) rfl h
  · have h : W (m_forgets [a, b] C) fun _ C1 => ∃ Y, C1 = C ++ Y := h
    repeat' walk_at "ev"
    refine h.imp fun _ C1 h => ?_
    obtain ⟨Y, rfl⟩ := h
    repeat' walk_at "ev"
    exact ⟨rfl, rfl, Y, rfl⟩
inductive ResO : Exn → D → Prop
  | std : ResO ⟨"NoStand", none⟩ (.str "stand")
  | ded (k : Int) : ResO ⟨"NoDeed", some ("at", .int k)⟩ (.tup [.str "deed", .int k])
theorem find2 {A : Type} {as : List Str} {h1 h2 : Str × A} (e : as.contains h1.1 = false) (e2 : as.contains h2.1 = true) : ([h1, h2].find? fun h => as.contains h.1) = some h2 := by
  rw [List.find?_cons_of_neg (by rw [e]; decide)]
  exact List.find?_cons_of_pos e2
theorem find1 {A : Type} {as : List Str} {h1 : Str × A} {l : List (Str × A)} (e : as.contains h1.1 = true) : ((h1 :: l).find? fun h => as.contains h.1) = some h1 := List.find?_cons_of_pos e
theorem tb_ns : errTb.lookup ("NoStand" : Str) = some (["NoStand", "RingError", "ValueError"] : List Str) := by decide +kernel
theorem tb_nd : errTb.lookup ("NoDeed" : Str) = some (["NoDeed", "RingError", "ValueError"] : List Str) := by decide +kernel
theorem asked_x (hj : j ≤ 3) (h : doorX j a b C fun e C1 => (∃ Y, C1 = C ++ Y) ∧ ResO e r) (q : QD r C) : W (m__law_asked [.int (j : Nat), a, b] C) QD := by
  have h2 := askB_x hj h
  unfold m__law_asked
  repeat' walk_at "ev"
  refine w_tryX ?_
  obtain ⟨e, C1, e1, ⟨Y, rfl⟩, hr⟩ := h2
  refine ⟨e, C ++ Y, e1, ?_⟩
  cases hr with
  | std =>
    refine w_hmHots (w := ("RingError", 4, _)) (by decide +kernel) tb_ns (find2 (by decide +kernel) (by decide +kernel)) (by show 4 < 5; decide) ?_
    show WS (sAsg (mF 1 m__law_word (aCons (mVar 4) aNil)) (gmN 3) [some (.int (j : Nat)), some a, some b, some (.str "none"), some (.exc "NoStand" "" [])] (C ++ Y)) _
    repeat' walk_at "ev"
    refine word_of tb_ns (i := 0) (w := "stand") (by decide +kernel) (by decide +kernel) (by decide +kernel) (by decide +kernel) rfl ?_
    repeat' walk_at "ev"
    exact fin_closed rfl q
  | ded k =>
    refine w_hmHots (w := ("NoDeed", 4, _)) (by show ("NoDeed" : Str) ∈ (["NoStand", "NoDeed"] : List Str); decide +kernel) tb_nd (find1 (by decide +kernel)) (by show 4 < 5; decide) ?_
    show WS (sAsg (mTup (aCons (mF 1 m__law_word (aCons (mVar 4) aNil)) (aCons (m1 (gXF errTb "at") (mVar 4)) aNil))) (gmN 3) [some (.int (j : Nat)), some a, some b, some (.str "none"), some (.exc "NoDeed" "at" [.int k])] (C ++ Y)) _
    repeat' walk_at "ev"
    refine word_of tb_nd (i := 8) (w := "deed") (by decide +kernel) (by decide +kernel) (by decide +kernel) (by decide +kernel) rfl ?_
    repeat' walk_at "ev"
    refine w_excF tb_nd ?_
    repeat' walk_at "ev"
    exact fin_closed rfl q
theorem asked_n (hj : j ≤ 3) (h : doorN j a b C) (q : QD (.str "none") C) : W (m__law_asked [.int (j : Nat), a, b] C) QD := by
  have h2 := askB_n hj h
  unfold m__law_asked
  repeat' walk_at "ev"
  refine w_tryN ?_
  refine w_scut h2 fun f sl C1 e => ?_
  obtain ⟨rfl, rfl, Y, rfl⟩ := e
  repeat' walk_at "ev"
  exact fin_closed rfl q
theorem odd_x (hj : j ≤ 3) (h : OddS a) (q : QD (.str "stand") C) : W (m__law_asked [.int (j : Nat), a, b] C) QD := by
  have p : (∃ Y, C = C ++ Y) ∧ ResO ⟨"NoStand", none⟩ (.str "stand") := ⟨⟨[], by simp⟩, .std⟩
  rcases (show j = 0 ∨ j = 1 ∨ j = 2 ∨ j = 3 by omega) with rfl | rfl | rfl | rfl
  · exact asked_x (by decide) (show doorX 0 _ _ _ _ from nexts_x h.ok h.no p) q
  · exact asked_x (by decide) (show doorX 1 _ _ _ _ from forgetting_x h.ok h.no p) q
  · exact asked_x (by decide) (show doorX 2 _ _ _ _ from idle_x h.ok h.no p) q
  · exact asked_x (by decide) (show doorX 3 _ _ _ _ from forgets_x h.ok h.no p) q
theorem good_n {w : Int} (hj : j ≤ 3) (v : Vs rs ls) (hl : rs.length = n + 1) (n1 : n ≤ 6) (hw : 1 ≤ w ∧ w ≤ n) (q : QD (.str "none") C) : W (m__law_asked [.int (j : Nat), sD rs ls, .tup [.str "go", .int w]] C) QD := by
  have hn1 : (n : Int) = rs.length - 1 := by omega
  rcases (show j = 0 ∨ j = 1 ∨ j = 2 ∨ j = 3 by omega) with rfl | rfl | rfl | rfl
  · exact asked_n (by decide) (show doorN 0 _ _ _ from nexts_ok v (by omega) hl ⟨_, rfl⟩) q
  · exact asked_n (by decide) (show doorN 1 _ _ _ from forgetting_ex v (by omega) hl) q
  · exact asked_n (by decide) (show doorN 2 _ _ _ from idle_ex v (by omega) hl) q
  · exact asked_n (by decide) (show doorN 3 _ _ _ from forgets_ok (e := ("go", w)) v (.f _ _) hn1 ⟨.inl rfl, hw.1, hw.2⟩ ⟨_, rfl⟩) q
theorem deed_x (v : Vs rs ls) (hl : rs.length = n + 1) (h : OddP n b) (q : QD (.tup [.str "deed", .int 1]) C) : W (m__law_asked [.int ((3 : Nat) : Int), sD rs ls, b] C) QD :=
  asked_x (by decide) (show doorX 3 _ _ _ _ from forgets_deed (n := n) v (by omega) h.ok h.no fun Y => ⟨⟨Y, rfl⟩, .ded 1⟩) q
end


/-! the law -/
section
theorem std_sh {rs ls : List Int} {n : Nat} (v : Vs rs ls) (hl : rs.length = n + 1) (n1 : n ≤ 6) : Sho (sD rs ls) 100000 6 := by
  have vl := v.len
  have hr : ∀ y ∈ rs, -1000 ≤ y ∧ y ≤ 1000 := fun y hy => by
    obtain ⟨i, hi⟩ := List.mem_iff_getElem?.mp hy
    have := v.r i y hi
    omega
  have hL : ∀ y ∈ ls, -1000 ≤ y ∧ y ≤ 1000 := fun y hy => by
    obtain ⟨i, hi⟩ := List.mem_iff_getElem?.mp hy
    have := v.l i y hi
    have := (List.getElem?_eq_some_iff.mp hi).1
    omega
  refine (Sho.tup (w := 24100) (n := 4) fun d hd => ?_).mono (by show (24100 + 1) * 2 ≤ 100000; decide) (by decide)
  simp only [List.mem_cons, List.not_mem_nil, or_false] at hd
  rcases hd with rfl | rfl
  · exact (Rw.ints hr (by omega)).sh
  · exact (Rw.ints hL (by omega)).sh
abbrev tol9 : List D := [.str "stand", .str "stand", .str "stand", .str "stand", .str "none", .str "none", .str "none", .str "none", .tup [.str "deed", .int 1]]
theorem tol9_eq : EqO (.lst tol9) 2 := EqO.lst (k := 1) fun x hx => by
  have a1 : EqO (.str "stand") 1 := (EqO.str (y := "stand")).mono (by decide)
  have a2 : EqO (.str "none") 1 := (EqO.str (y := "none")).mono (by decide)
  have a3 : EqO (.tup [.str "deed", .int 1]) 1 := EqO.tup (k := 0) fun y hy => by
    simp only [List.mem_cons, List.not_mem_nil, or_false] at hy
    rcases hy with rfl | rfl
    · exact EqO.str
    · exact EqO.int _
  simp only [List.mem_cons, List.not_mem_nil, or_false] at hx
  rcases hx with rfl | rfl | rfl | rfl | rfl | rfl | rfl | rfl | rfl <;> assumption
theorem law_ok {ns : List Int} (hl : ns.length ≤ 63) : W (m_law [.lst (ns.map D.int)] []) fun d _ => d = .bl true := by
  have hcl : ∀ n, closedDs n (ns.map D.int) = true := fun n => closedDs_ints n ns
  unfold m_law
  repeat' walk_at "ev"
  obtain ⟨ct, hct, hct2⟩ : ∃ ct : Nat, max 1 (min 6 (((ns.map D.int).length : Nat) : Int)) = (ct : Int) ∧ ct ≤ 6 := ⟨(max 1 (min 6 (((ns.map D.int).length : Nat) : Int))).toNat, by omega, by omega⟩
  rw [hct]
  refine w_forM (fun i sl C => sl = [some (.lst (ns.map D.int)), none, none, none, none, none, none, none, none, none, none, none] ∧ C = []) (fun _ _ _ _ => okG_nil _) ?_ ?_ ⟨rfl, rfl⟩
  · intro i d sl C hd hi
    obtain ⟨rfl, rfl⟩ := hi
    obtain ⟨hi, rfl⟩ := rgD_get (n := ct) hd
    repeat' walk_at "ev"
    refine jarD_ok (by omega) fun S hS => ?_
    repeat' walk_at "ev"
    refine w_forM (fun t sl C => ∃ S', sl = [some (.lst (ns.map D.int)), some (.int i), some (.cell 0), none, none, none, none, none, none, none, none, none] ∧ C = [S'] ∧ Jd (t * 20000) S') (fun _ _ _ _ => okG_nil _) ?_ ?_ ⟨S, rfl, rfl, hS.mono (by omega)⟩
    · intro t d sl C hd2 hi2
      obtain ⟨S', rfl, rfl, hS'⟩ := hi2
      obtain ⟨ht, rfl⟩ := rgD_get (n := 4) hd2
      repeat' walk_at "ev"
      refine sizeD_ok (G := []) (by omega) hS' ClS.nil (by omega) (by omega) fun n S1 n0 n1 hS1 => ?_
      have n6 : n ≤ 6 := by omega
      repeat' walk_at "ev"
      refine w_fzV ?_
      repeat' walk_at "ev"
      refine handsD_ok (G := []) (by omega) hS1 ClS.nil n0 (by omega) fun S2 rs ls hS2 v vl => ?_
      refine ⟨[S2], [], rfl, rfl, ClS.one (hS2.closed 0), sD_closed _ _, ?_⟩
      repeat' walk_at "ev"
      refine w_fzV ?_
      repeat' walk_at "ev"
      refine nostand_ok (by omega) hS2 v vl n0 n6 fun S3 bd hS3 hb => ?_
      refine ⟨[S3], [], rfl, rfl, ClS.one (hS3.closed 0), hb.cl, ?_⟩
      repeat' walk_at "ev"
      refine w_fzV ?_
      repeat' walk_at "ev"
      refine nodeed_ok (by omega) hS3 n0 n6 fun S4 od hS4 ho => ?_
      refine ⟨[S4], [], rfl, rfl, ClS.one (hS4.closed 0), ho.cl, ?_⟩
      repeat' walk_at "ev"
      refine dip_c0 (by omega) hS4 (by omega) (by omega) fun w S5 w0 w1 hS5 => ?_
      repeat' walk_at "ev"
      obtain ⟨wh, hwh⟩ : Sho (.lst [sD rs ls, bd, od]) 300003 7 := (Sho.lst (w := 100000) (n := 6) fun d hd => by
        simp only [List.mem_cons, List.not_mem_nil, or_false] at hd
        rcases hd with rfl | rfl | rfl
        · exact std_sh v vl n6
        · exact hb.sh
        · exact ho.sh).mono (by simp) (by decide)
      refine w_shE hwh (by decide) (by decide) ?_
      repeat' walk_at "ev"
      refine w_lcM (fun i acc C' => ∃ S', acc = List.replicate i (.str "stand") ∧ C' = [S'] ∧ Jd (t * 20000 + 10000 + i) S') (fun _ _ _ _ => okG_nil _) (fun i2 d acc C' hd3 hi3 => ?_) (fun zs C' hi3 => ?_) ⟨S5, rfl, rfl, hS5.mono (by omega)⟩
      · obtain ⟨S6, rfl, rfl, hS6⟩ := hi3
        obtain ⟨hi4, rfl⟩ := rgD_get (n := 4) hd3
        repeat' walk_at "ev"
        refine w_fzV ?_
        repeat' walk_at "ev"
        refine dip_c0 (by omega) hS6 (by decide) (by decide) fun r7 S7 a7 b7 hS7 => ?_
        refine w_ixM (P := fun _ => True) (fun _ _ => trivial) a7 b7 fun dx _ => ?_
        repeat' walk_at "ev"
        refine odd_x (by omega) hb ?_
        refine ⟨[S7], [], rfl, rfl, ClS.one (hS7.closed 0), rfl, ?_⟩
        exact ⟨S7, by rw [List.replicate_succ'], rfl, hS7.mono (by omega)⟩
      obtain ⟨S6, rfl, rfl, hS6⟩ := hi3
      repeat' walk_at "ev"
      refine w_lcRg (n := 4) (f := fun _ => .str "none") (fun j hj => ?_) ?_
      · repeat' walk_at "ev"
        refine w_fzV0 ?_
        repeat' walk_at "ev"
        refine good_n (by omega) v vl n6 (by omega) ?_
        exact ⟨[], by simp, rfl, rfl, rfl⟩
      repeat' walk_at "ev"
      refine w_addL (by show (8 : Nat) ≤ sizeLine; decide) ?_
      repeat' walk_at "ev"
      refine w_fzV0 ?_
      repeat' walk_at "ev"
      refine deed_x v vl ho ?_
      refine ⟨[], by simp, rfl, ?_⟩
      repeat' walk_at "ev"
      refine w_addL (by show (9 : Nat) ≤ sizeLine; decide) ?_
      repeat' walk_at "ev"
      refine ⟨by show (1 * 4 : Nat) ≤ sizeLine; decide, w_newF ?_⟩
      repeat' walk_at "ev"
      refine ⟨by show (1 * 4 : Nat) ≤ sizeLine; decide, w_newF ?_⟩
      repeat' walk_at "ev"
      refine w_addL (by show (8 : Nat) ≤ sizeLine; decide) ?_
      repeat' walk_at "ev"
      refine w_addL (by show (9 : Nat) ≤ sizeLine; decide) ?_
      repeat' walk_at "ev"
      refine w_neO (k := 2) tol9_eq rfl (by decide) (fun a e => by cases e) ?_
      repeat' walk_at "ev"
      refine w_shE hwh (by decide) (by decide) ?_
      repeat' walk_at "ev"
      refine ite_f (by simp) ?_
      repeat' walk_at "ev"
      refine gc_nn0 (by walk_at "sw") rfl (ClS.one (hS6.closed 0)) ?_ ⟨S6, rfl, rfl, hS6.mono (by show t * 20000 + 10000 + 4 ≤ _; omega)⟩
      simp [slOk, closedD, closedDs, closedDs_ints]
    · intro sl C hi2
      obtain ⟨S', rfl, rfl, hS'⟩ := hi2
      repeat' walk_at "ev"
      refine gc_niln (by walk_at "sw") ?_ ⟨rfl, rfl⟩
      simp [slOk, closedD, closedDs, closedDs_ints]
  · intro sl C hi
    obtain ⟨rfl, rfl⟩ := hi
    repeat' walk_at "ev"
    exact fin_same rfl rfl rfl
end


end Tk
open PySem PySem.W PyProof.Rows
set_option maxHeartbeats 0 in
theorem PySem.Challenge.cw_takeback_k56_next_deeds_refused_holds : PySem.Challenge.rw_takeback_k56_next_deeds_refused.Holds := by
  w_on; o_law; k_head; (case hw => w_witness2)
  k_fill
  refine Nv.walkG (l := PySem.Challenge.rw_takeback_k56_next_deeds_refused) (n := 63) (k := 9) (x := "_law_script") (mf := Tk.m_law) rfl (by decide) rfl ⟨rfl, by decide, by decide⟩ (fun w h Y => PySem.W.kIn_of Y) ?hfun (fun ns hl => ?hlaw)
  case hlaw =>
    obtain ⟨d, C, e, hd⟩ := Tk.law_ok hl
    exact ⟨C, hd ▸ e⟩
  case hfun =>
    intro w mg fa h KX G hmg
    refine' Tk.all_mk KX G hmg (Tk.blts_of KX G ?qz0 ?qz1 ?qz2 ?qz3 ?qz4 ?qz5 ?qz6 ?qz7 ?qz8 ?qz9 ?qz10 ?qz11 ?qz12) ⟨(Tk.gc_COME_later KX G ?qg0), (Tk.gc_FORGOTTEN_mending KX G ?qg1), (Tk.gc_FORGOTTEN_stands KX G ?qg2), (Tk.gc_GO_deeds KX G ?qg3), (Tk.gc_GO_later KX G ?qg4), (Tk.gc_HELD_mending KX G ?qg5), (Tk.gc_HELD_stands KX G ?qg6), (Tk.gc_LEAST_DANCER KX G ?qg7), (Tk.gc_LEFT_deeds KX G ?qg8), (Tk.gc_LEFT_mending KX G ?qg9), (Tk.gc_LEFT_stands KX G ?qg10), (Tk.gc_RIGHT_deeds KX G ?qg11), (Tk.gc_RIGHT_stands KX G ?qg12), (Tk.gc_WORDS KX G ?qg13 ?qh13 ?qw13 ?qv13)⟩ (Tk.at__law_jar KX G ?qa0 ?ql0 ?qc0 ?qk0) (Tk.at__law_dip KX G ?qa1 ?ql1 ?qc1 ?qk1) (Tk.at__law_size KX G ?qa2 ?ql2 ?qc2 ?qk2) (Tk.at__law_ring KX G ?qa3 ?ql3 ?qc3 ?qk3) (Tk.at__law_done KX G ?qa4 ?ql4 ?qc4 ?qk4) (Tk.at__law_hands KX G ?qa5 ?ql5 ?qc5 ?qk5) (Tk.at__law_no_stand KX G ?qa6 ?ql6 ?qc6 ?qk6) (Tk.at__law_no_deed KX G ?qa7 ?ql7 ?qc7 ?qk7) (Tk.at_is_between KX G ?qa8 ?ql8 ?qc8 ?qk8) (Tk.at_is_stand KX G ?qa9 ?ql9 ?qc9 ?qk9) (Tk.at_need_stand KX G ?qa10 ?ql10 ?qc10 ?qk10) (Tk.at_word_of KX G ?qa11 ?ql11 ?qc11 ?qk11) (Tk.at_words KX G ?qa12 ?ql12 ?qc12 ?qk12) (Tk.at_owners_in KX G ?qa13 ?ql13 ?qc13 ?qk13) (Tk.at_fewest KX G ?qa14 ?ql14 ?qc14 ?qk14) (Tk.at_all_deeds KX G ?qa15 ?ql15 ?qc15 ?qk15) (Tk.at_is_deed KX G ?qa16 ?ql16 ?qc16 ?qk16) (Tk.at_need_deeds KX G ?qa17 ?ql17 ?qc17 ?qk17) (Tk.at_copied KX G ?qa18 ?ql18 ?qc18 ?qk18) (Tk.at_dancers_of KX G ?qa19 ?ql19 ?qc19 ?qk19) (Tk.at_hands_by KX G ?qa20 ?ql20 ?qc20 ?qk20) (Tk.at_behind KX G ?qa21 ?ql21 ?qc21 ?qk21) (Tk.at_nexts KX G ?qa22 ?ql22 ?qc22 ?qk22) (Tk.at_forgotten KX G ?qa23 ?ql23 ?qc23 ?qk23) (Tk.at_forgotten_ahead KX G ?qa24 ?ql24 ?qc24 ?qk24) (Tk.at_newly_forgotten KX G ?qa25 ?ql25 ?qc25 ?qk25) (Tk.at_forgetting KX G ?qa26 ?ql26 ?qc26 ?qk26) (Tk.at_changed KX G ?qa27 ?ql27 ?qc27 ?qk27) (Tk.at_idle KX G ?qa28 ?ql28 ?qc28 ?qk28) (Tk.at_forgets KX G ?qa29 ?ql29 ?qc29 ?qk29) (Tk.at__law_word KX G ?qa30 ?ql30 ?qc30 ?qk30) (Tk.at__law_asked KX G ?qa31 ?ql31 ?qc31 ?qk31) (Tk.err_NoDeed KX G ?eNoDeedaC ?eNoDeedaR ?eNoDeedaS ?eNoDeedlC ?eNoDeedsa ?eNoDeedga ?eNoDeedgg ?eNoDeednf ?eNoDeedeC ?eNoDeedtC ?eNoDeedkC ?eNoDeedhC ?eNoDeediC ?eNoDeedtI ?eNoDeedxa ?eNoDeedxn ?eNoDeedxt ?eNoDeedxm ?eNoDeedrd ?eNoDeedrg ?eNoDeedri ?eNoDeeds1 ?eNoDeeds2 ?eNoDeeds3 ?eNoDeeds4 ?eNoDeedtv ?eNoDeedl ?eNoDeedc ?eNoDeedk) (Tk.fa_r_NoStand KX G ?fr_NoStandaC ?fr_NoStandex ?fr_NoStandkp ?fr_NoStandsb ?fr_NoStandty) (Tk.fa_o_NoStand KX G ?fo_NoStandaC0 ?fo_NoStandaC1 ?fo_NoStandh2 ?fo_NoStandh3 ?fo_NoStandne1 ?fo_NoStandh41) (Tk.fa_o_E KX G ?fo_EaC0 ?fo_EaC1 ?fo_Ega0 ?fo_Egg0 ?fo_EeC0 ?fo_EhC0 ?fo_Exa0 ?fo_Exn0 ?fo_Ext0 ?fo_Exm0 ?fo_Ega1 ?fo_Egg1 ?fo_EeC1 ?fo_EhC1 ?fo_Exa1 ?fo_Exn1 ?fo_Ext1 ?fo_Exm1) (Tk.fa_o_NoNumber KX G ?fo_NoNumberaC0 ?fo_NoNumberaC1 ?fo_NoNumberaT ?fo_NoNumberh2 ?fo_NoNumberh3 ?fo_NoNumberne0 ?fo_NoNumberh40 ?fo_NoNumberne1 ?fo_NoNumberh41) (Tk.fa_o_NoOrder KX G ?fo_NoOrderaC0 ?fo_NoOrderaC1 ?fo_NoOrderaT ?fo_NoOrderh2 ?fo_NoOrderh3 ?fo_NoOrderne0 ?fo_NoOrderh40 ?fo_NoOrderne1 ?fo_NoOrderh41) (Tk.fa_o_NoBorder KX G ?fo_NoBorderaC0 ?fo_NoBorderaC1 ?fo_NoBorderaT ?fo_NoBorderh2 ?fo_NoBorderh3 ?fo_NoBorderne0 ?fo_NoBorderh40 ?fo_NoBorderne1 ?fo_NoBorderh41) (Tk.fa_o_Nothing KX G ?fo_NothingaC0 ?fo_NothingaC1 ?fo_NothingaT ?fo_Nothingh2 ?fo_Nothingh3 ?fo_Nothingne0 ?fo_Nothingh40 ?fo_Nothingne1 ?fo_Nothingh41) (Tk.fa_o_NoName KX G ?fo_NoNameaC0 ?fo_NoNameaC1 ?fo_NoNameaT ?fo_NoNameh2 ?fo_NoNameh3 ?fo_NoNamene0 ?fo_NoNameh40 ?fo_NoNamene1 ?fo_NoNameh41) (Tk.fa_o_Taken KX G ?fo_TakenaC0 ?fo_TakenaC1 ?fo_TakenaT ?fo_Takenh2 ?fo_Takenh3 ?fo_Takenne0 ?fo_Takenh40 ?fo_Takenne1 ?fo_Takenh41) (Tk.fa_o_NoForm KX G ?fo_NoFormaC0 ?fo_NoFormaC1 ?fo_NoFormaT ?fo_NoFormh2 ?fo_NoFormh3 ?fo_NoFormne0 ?fo_NoFormh40 ?fo_NoFormne1 ?fo_NoFormh41) (Tk.fa_o_NoDeed KX G ?fo_NoDeedaC0 ?fo_NoDeedaC1 ?fo_NoDeedh2 ?fo_NoDeedh3 ?fo_NoDeedne0 ?fo_NoDeedh40) (Tk.fa_o_Forgotten KX G ?fo_ForgottenaC0 ?fo_ForgottenaC1 ?fo_ForgottenaT ?fo_Forgottenh2 ?fo_Forgottenh3 ?fo_Forgottenne0 ?fo_Forgottenh40 ?fo_Forgottenne1 ?fo_Forgottenh41) (Tk.fa_o_NoDancer KX G ?fo_NoDanceraC0 ?fo_NoDanceraC1 ?fo_NoDanceraT ?fo_NoDancerh2 ?fo_NoDancerh3 ?fo_NoDancerne0 ?fo_NoDancerh40 ?fo_NoDancerne1 ?fo_NoDancerh41) (Tk.fa_o_TooMany KX G ?fo_TooManyaC0 ?fo_TooManyaC1 ?fo_TooManyaT ?fo_TooManyh2 ?fo_TooManyh3 ?fo_TooManyne0 ?fo_TooManyh40 ?fo_TooManyne1 ?fo_TooManyh41) (Tk.fa_o_NoText KX G ?fo_NoTextaC0 ?fo_NoTextaC1 ?fo_NoTextaT ?fo_NoTexth2 ?fo_NoTexth3 ?fo_NoTextne0 ?fo_NoTexth40 ?fo_NoTextne1 ?fo_NoTexth41) (Tk.fa_o_ValueError KX G ?fo_ValueErroraC0 ?fo_ValueErroraC1 ?fo_ValueErrorzv ?fo_ValueErrortv0 ?fo_ValueErrortv1) (Tk.fa_em_RingError KX G ?fem_RingErroraC0 ?fem_RingErroraC1 ?fem_RingErroraR ?fem_RingErrors1 ?fem_RingErrors2 ?fem_RingErrors3 ?fem_RingErrors40 ?fem_RingErrors41) (Tk.fa_em_NoDeed KX G ?fem_NoDeedaC0 ?fem_NoDeedaC1 ?fem_NoDeeds1 ?fem_NoDeeds2 ?fem_NoDeeds3 ?fem_NoDeeds40 ?fem_NoDeeds41) (Tk.fa_n_at KX G ?fn_ataC0 ?fn_ataC1 ?fn_atnf0 ?fn_atnf1) (Tk.fa_kp_RingError KX G ?fkp_RingErroraC0 ?fkp_RingErroraC1 ?fkp_RingErroraR ?fkp_RingErrors1 ?fkp_RingErrors2 ?fkp_RingErrors3 ?fkp_RingErrors40 ?fkp_RingErrors41) ?qa ?ql ?qc ?qk
    (case qz0 => k_is)
    (case qz1 => k_is)
    (case qz2 => k_is)
    (case qz3 => k_is)
    (case qz4 => k_is)
    (case qz5 => k_is)
    (case qz6 => k_is)
    (case qz7 => k_is)
    (case qz8 => k_is)
    (case qz9 => k_is)
    (case qz10 => k_is)
    (case qz11 => k_is)
    (case qz12 => k_is)
    (case qg0 => k_is)
    (case qg1 => k_is)
    (case qg2 => k_is)
    (case qg3 => k_is)
    (case qg4 => k_is)
    (case qg5 => k_is)
    (case qg6 => k_is)
    (case qg7 => k_is)
    (case qg8 => k_is)
    (case qg9 => k_is)
    (case qg10 => k_is)
    (case qg11 => k_is)
    (case qg12 => k_is)
    (case qg13 => k_is)
    (case qh13 => k_is)
    (case qw13 => decide)
    (case qv13 => exact .cons ⟨_, rfl⟩ (.cons ⟨_, rfl⟩ (.nil)))
    (case qa0 => k_is)
    (case ql0 => k_is)
    (case qc0 => k_is)
    (case qk0 => k_is)
    (case qa1 => k_is)
    (case ql1 => k_is)
    (case qc1 => k_is)
    (case qk1 => k_is)
    (case qa2 => k_is)
    (case ql2 => k_is)
    (case qc2 => k_is)
    (case qk2 => k_is)
    (case qa3 => k_is)
    (case ql3 => k_is)
    (case qc3 => k_is)
    (case qk3 => k_is)
    (case qa4 => k_is)
    (case ql4 => k_is)
    (case qc4 => k_is)
    (case qk4 => k_is)
    (case qa5 => k_is)
    (case ql5 => k_is)
    (case qc5 => k_is)
    (case qk5 => k_is)
    (case qa6 => k_is)
    (case ql6 => k_is)
    (case qc6 => k_is)
    (case qk6 => k_is)
    (case qa7 => k_is)
    (case ql7 => k_is)
    (case qc7 => k_is)
    (case qk7 => k_is)
    (case qa8 => k_is)
    (case ql8 => k_is)
    (case qc8 => k_is)
    (case qk8 => k_is)
    (case qa9 => k_is)
    (case ql9 => k_is)
    (case qc9 => k_is)
    (case qk9 => k_is)
    (case qa10 => k_is)
    (case ql10 => k_is)
    (case qc10 => k_is)
    (case qk10 => k_is)
    (case qa11 => k_is)
    (case ql11 => k_is)
    (case qc11 => k_is)
    (case qk11 => k_is)
    (case qa12 => k_is)
    (case ql12 => k_is)
    (case qc12 => k_is)
    (case qk12 => k_is)
    (case qa13 => k_is)
    (case ql13 => k_is)
    (case qc13 => k_is)
    (case qk13 => k_is)
    (case qa14 => k_is)
    (case ql14 => k_is)
    (case qc14 => k_is)
    (case qk14 => k_is)
    (case qa15 => k_is)
    (case ql15 => k_is)
    (case qc15 => k_is)
    (case qk15 => k_is)
    (case qa16 => k_is)
    (case ql16 => k_is)
    (case qc16 => k_is)
    (case qk16 => k_is)
    (case qa17 => k_is)
    (case ql17 => k_is)
    (case qc17 => k_is)
    (case qk17 => k_is)
    (case qa18 => k_is)
    (case ql18 => k_is)
    (case qc18 => k_is)
    (case qk18 => k_is)
    (case qa19 => k_is)
    (case ql19 => k_is)
    (case qc19 => k_is)
    (case qk19 => k_is)
    (case qa20 => k_is)
    (case ql20 => k_is)
    (case qc20 => k_is)
    (case qk20 => k_is)
    (case qa21 => k_is)
    (case ql21 => k_is)
    (case qc21 => k_is)
    (case qk21 => k_is)
    (case qa22 => k_is)
    (case ql22 => k_is)
    (case qc22 => k_is)
    (case qk22 => k_is)
    (case qa23 => k_is)
    (case ql23 => k_is)
    (case qc23 => k_is)
    (case qk23 => k_is)
    (case qa24 => k_is)
    (case ql24 => k_is)
    (case qc24 => k_is)
    (case qk24 => k_is)
    (case qa25 => k_is)
    (case ql25 => k_is)
    (case qc25 => k_is)
    (case qk25 => k_is)
    (case qa26 => k_is)
    (case ql26 => k_is)
    (case qc26 => k_is)
    (case qk26 => k_is)
    (case qa27 => k_is)
    (case ql27 => k_is)
    (case qc27 => k_is)
    (case qk27 => k_is)
    (case qa28 => k_is)
    (case ql28 => k_is)
    (case qc28 => k_is)
    (case qk28 => k_is)
    (case qa29 => k_is)
    (case ql29 => k_is)
    (case qc29 => k_is)
    (case qk29 => k_is)
    (case qa30 => k_is)
    (case ql30 => k_is)
    (case qc30 => k_is)
    (case qk30 => k_is)
    (case qa31 => k_is)
    (case ql31 => k_is)
    (case qc31 => k_is)
    (case qk31 => k_is)
    (case eNoDeedaC => k_is)
    (case eNoDeedaR => k_is)
    (case eNoDeedaS => k_is)
    (case eNoDeedlC => k_is)
    (case eNoDeedsa => k_is)
    (case eNoDeedga => k_is)
    (case eNoDeedgg => k_is)
    (case eNoDeednf => k_is)
    (case eNoDeedeC => k_is)
    (case eNoDeedtC => k_is)
    (case eNoDeedkC => k_is)
    (case eNoDeedhC => k_is)
    (case eNoDeediC => k_is)
    (case eNoDeedtI => k_is)
    (case eNoDeedxa => k_is)
    (case eNoDeedxn => k_is)
    (case eNoDeedxt => k_is)
    (case eNoDeedxm => k_is)
    (case eNoDeedrd => k_is)
    (case eNoDeedrg => k_is)
    (case eNoDeedri => k_is)
    (case eNoDeeds1 => k_is)
    (case eNoDeeds2 => k_is)
    (case eNoDeeds3 => k_is)
    (case eNoDeeds4 => k_is)
    (case eNoDeedtv => k_is)
    (case eNoDeedl => k_is)
    (case eNoDeedc => k_is)
    (case eNoDeedk => k_is)
    (case fr_NoStandaC => k_is)
    (case fr_NoStandex => k_exc)
    (case fr_NoStandkp => k_is)
    (case fr_NoStandsb => k_is)
    (case fr_NoStandty => k_is)
    (case fo_NoStandaC0 => k_is)
    (case fo_NoStandaC1 => k_is)
    (case fo_NoStandh2 => k_is)
    (case fo_NoStandh3 => k_is)
    (case fo_NoStandne1 => decide)
    (case fo_NoStandh41 => k_is)
    (case fo_EaC0 => k_is)
    (case fo_EaC1 => k_is)
    (case fo_Ega0 => k_is)
    (case fo_Egg0 => k_is)
    (case fo_EeC0 => k_is)
    (case fo_EhC0 => k_is)
    (case fo_Exa0 => k_is)
    (case fo_Exn0 => k_is)
    (case fo_Ext0 => k_is)
    (case fo_Exm0 => k_is)
    (case fo_Ega1 => k_is)
    (case fo_Egg1 => k_is)
    (case fo_EeC1 => k_is)
    (case fo_EhC1 => k_is)
    (case fo_Exa1 => k_is)
    (case fo_Exn1 => k_is)
    (case fo_Ext1 => k_is)
    (case fo_Exm1 => k_is)
    (case fo_NoNumberaC0 => k_is)
    (case fo_NoNumberaC1 => k_is)
    (case fo_NoNumberaT => k_is)
    (case fo_NoNumberh2 => k_is)
    (case fo_NoNumberh3 => k_is)
    (case fo_NoNumberne0 => decide)
    (case fo_NoNumberh40 => k_is)
    (case fo_NoNumberne1 => decide)
    (case fo_NoNumberh41 => k_is)
    (case fo_NoOrderaC0 => k_is)
    (case fo_NoOrderaC1 => k_is)
    (case fo_NoOrderaT => k_is)
    (case fo_NoOrderh2 => k_is)
    (case fo_NoOrderh3 => k_is)
    (case fo_NoOrderne0 => decide)
    (case fo_NoOrderh40 => k_is)
    (case fo_NoOrderne1 => decide)
    (case fo_NoOrderh41 => k_is)
    (case fo_NoBorderaC0 => k_is)
    (case fo_NoBorderaC1 => k_is)
    (case fo_NoBorderaT => k_is)
    (case fo_NoBorderh2 => k_is)
    (case fo_NoBorderh3 => k_is)
    (case fo_NoBorderne0 => decide)
    (case fo_NoBorderh40 => k_is)
    (case fo_NoBorderne1 => decide)
    (case fo_NoBorderh41 => k_is)
    (case fo_NothingaC0 => k_is)
    (case fo_NothingaC1 => k_is)
    (case fo_NothingaT => k_is)
    (case fo_Nothingh2 => k_is)
    (case fo_Nothingh3 => k_is)
    (case fo_Nothingne0 => decide)
    (case fo_Nothingh40 => k_is)
    (case fo_Nothingne1 => decide)
    (case fo_Nothingh41 => k_is)
    (case fo_NoNameaC0 => k_is)
    (case fo_NoNameaC1 => k_is)
    (case fo_NoNameaT => k_is)
    (case fo_NoNameh2 => k_is)
    (case fo_NoNameh3 => k_is)
    (case fo_NoNamene0 => decide)
    (case fo_NoNameh40 => k_is)
    (case fo_NoNamene1 => decide)
    (case fo_NoNameh41 => k_is)
    (case fo_TakenaC0 => k_is)
    (case fo_TakenaC1 => k_is)
    (case fo_TakenaT => k_is)
    (case fo_Takenh2 => k_is)
    (case fo_Takenh3 => k_is)
    (case fo_Takenne0 => decide)
    (case fo_Takenh40 => k_is)
    (case fo_Takenne1 => decide)
    (case fo_Takenh41 => k_is)
    (case fo_NoFormaC0 => k_is)
    (case fo_NoFormaC1 => k_is)
    (case fo_NoFormaT => k_is)
    (case fo_NoFormh2 => k_is)
    (case fo_NoFormh3 => k_is)
    (case fo_NoFormne0 => decide)
    (case fo_NoFormh40 => k_is)
    (case fo_NoFormne1 => decide)
    (case fo_NoFormh41 => k_is)
    (case fo_NoDeedaC0 => k_is)
    (case fo_NoDeedaC1 => k_is)
    (case fo_NoDeedh2 => k_is)
    (case fo_NoDeedh3 => k_is)
    (case fo_NoDeedne0 => decide)
    (case fo_NoDeedh40 => k_is)
    (case fo_ForgottenaC0 => k_is)
    (case fo_ForgottenaC1 => k_is)
    (case fo_ForgottenaT => k_is)
    (case fo_Forgottenh2 => k_is)
    (case fo_Forgottenh3 => k_is)
    (case fo_Forgottenne0 => decide)
    (case fo_Forgottenh40 => k_is)
    (case fo_Forgottenne1 => decide)
    (case fo_Forgottenh41 => k_is)
    (case fo_NoDanceraC0 => k_is)
    (case fo_NoDanceraC1 => k_is)
    (case fo_NoDanceraT => k_is)
    (case fo_NoDancerh2 => k_is)
    (case fo_NoDancerh3 => k_is)
    (case fo_NoDancerne0 => decide)
    (case fo_NoDancerh40 => k_is)
    (case fo_NoDancerne1 => decide)
    (case fo_NoDancerh41 => k_is)
    (case fo_TooManyaC0 => k_is)
    (case fo_TooManyaC1 => k_is)
    (case fo_TooManyaT => k_is)
    (case fo_TooManyh2 => k_is)
    (case fo_TooManyh3 => k_is)
    (case fo_TooManyne0 => decide)
    (case fo_TooManyh40 => k_is)
    (case fo_TooManyne1 => decide)
    (case fo_TooManyh41 => k_is)
    (case fo_NoTextaC0 => k_is)
    (case fo_NoTextaC1 => k_is)
    (case fo_NoTextaT => k_is)
    (case fo_NoTexth2 => k_is)
    (case fo_NoTexth3 => k_is)
    (case fo_NoTextne0 => decide)
    (case fo_NoTexth40 => k_is)
    (case fo_NoTextne1 => decide)
    (case fo_NoTexth41 => k_is)
    (case fo_ValueErroraC0 => k_is)
    (case fo_ValueErroraC1 => k_is)
    (case fo_ValueErrorzv => k_is)
    (case fo_ValueErrortv0 => k_is)
    (case fo_ValueErrortv1 => k_is)
    (case fem_RingErroraC0 => k_is)
    (case fem_RingErroraC1 => k_is)
    (case fem_RingErroraR => k_is)
    (case fem_RingErrors1 => k_is)
    (case fem_RingErrors2 => k_is)
    (case fem_RingErrors3 => k_is)
    (case fem_RingErrors40 => k_is)
    (case fem_RingErrors41 => k_is)
    (case fem_NoDeedaC0 => k_is)
    (case fem_NoDeedaC1 => k_is)
    (case fem_NoDeeds1 => k_is)
    (case fem_NoDeeds2 => k_is)
    (case fem_NoDeeds3 => k_is)
    (case fem_NoDeeds40 => k_is)
    (case fem_NoDeeds41 => k_is)
    (case fn_ataC0 => k_is)
    (case fn_ataC1 => k_is)
    (case fn_atnf0 => k_is)
    (case fn_atnf1 => k_is)
    (case fkp_RingErroraC0 => k_is)
    (case fkp_RingErroraC1 => k_is)
    (case fkp_RingErroraR => k_is)
    (case fkp_RingErrors1 => k_is)
    (case fkp_RingErrors2 => k_is)
    (case fkp_RingErrors3 => k_is)
    (case fkp_RingErrors40 => k_is)
    (case fkp_RingErrors41 => k_is)
    (case qa => k_is)
    (case ql => k_is)
    (case qc => k_is)
    (case qk => k_is)
